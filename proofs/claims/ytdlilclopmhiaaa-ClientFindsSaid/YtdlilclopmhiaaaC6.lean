/- Go functions: what they come to, and that they do. Printed by a program of the session (gen). -/
import Derived.Test.YtdlilclopmhiaaaCF
import Derived.Test.YtdlilclopmhiaaaC5
set_option linter.unusedVariables false
set_option linter.unusedSimpArgs false
namespace Go.Proofs.Ytdlilclopmhiaaa.G
open Go Go.KK

noncomputable def f_client_Begin (a0 : T_api_Client) (a1 : T_api_Request) : Option (T_api_Client × GErr) :=
  (if (decide ((0 : Int) < (a0.Open.length : Int))) = true then ((f_fault_New (⟨#[111, 112, 101, 110]⟩ : ByteArray) a0.Serial (10 : Int)).bind fun (r25 : GErr) => (some (a0, r25))) else (if (decide (a0.Serial = (1073741824 : Int))) = true then ((f_fault_New (⟨#[115, 101, 114, 105, 97, 108]⟩ : ByteArray) a0.Serial (7 : Int)).bind fun (r31 : GErr) => (some (a0, r31))) else ((f_client_Alone a1).bind fun (r36 : T_api_Request) => ((f_ask_Check (⟨a0.Id, IntKind.i64.wrap (a0.Serial + (1 : Int)), r36.Kind, r36.Name, r36.Key, r36.Value, r36.Flag, r36.Parts, r36.Replicas, r36.Part, r36.Ids, r36.Broker, r36.Epoch, r36.Rack, r36.Word⟩ : T_api_Request)).bind fun (r41 : GErr) => (if (!r41.isNil) = true then ((f_fault_Wrap (⟨#[98, 101, 103, 105, 110]⟩ : ByteArray) a0.Serial r41).bind fun (r50 : GErr) => (some (a0, r50))) else (some ((⟨a0.Id, IntKind.i64.wrap (a0.Serial + (1 : Int)), a0.Voters, a0.Node, [(⟨a0.Id, IntKind.i64.wrap (a0.Serial + (1 : Int)), r36.Kind, r36.Name, r36.Key, r36.Value, r36.Flag, r36.Parts, r36.Replicas, r36.Part, r36.Ids, r36.Broker, r36.Epoch, r36.Rack, r36.Word⟩ : T_api_Request)], (0 : Int)⟩ : T_api_Client), GErr.nil)))))))
def f_client_Begin_post (a0 : T_api_Client) (a1 : T_api_Request) (v0_4 v1_10 : Value) : (T_api_Client × GErr) → Value → IM → HL → Prop :=
  fun (p_ : (T_api_Client × GErr)) (v : Value) (M' : IM) (H' : HL) => match p_ with | (r0, r1) => ∃ vz0_4, (.tuple #[(.agg #[(.int .i64 r0.Id), (.int .i64 r0.Serial), (.int .i64 r0.Voters), (.int .i64 r0.Node), vz0_4, (.int .i64 r0.Tries)]), (GV r1)]) = v ∧ H' = [] ∧ RS kd_api_Request M' vz0_4 r0.Open
set_option maxHeartbeats 8000000 in
set_option maxRecDepth 100000 in
theorem f_client_Begin_ok (a0 : T_api_Client) (a1 : T_api_Request) (M : IM) (v0_4 v1_10 : Value) (h0_4 : RS kd_api_Request M v0_4 a0.Open) (h1_10 : RS (Kd.int .i64) M v1_10 a1.Ids) (res : (T_api_Client × GErr)) (h : f_client_Begin a0 a1 = some res) :
    Tri Try.prog 10 #[(.agg #[(.int .i64 a0.Id), (.int .i64 a0.Serial), (.int .i64 a0.Voters), (.int .i64 a0.Node), v0_4, (.int .i64 a0.Tries)]), (.agg #[(.int .i64 a1.Client), (.int .i64 a1.Serial), (.int .i64 a1.Kind), (.string a1.Name), (.string a1.Key), (.string a1.Value), (.bool a1.Flag), (.int .i64 a1.Parts), (.int .i64 a1.Replicas), (.int .i64 a1.Part), v1_10, (.int .i64 a1.Broker), (.int .i64 a1.Epoch), (.string a1.Rack), (.int .i64 a1.Word.Broker), (.int .i64 a1.Word.Epoch), (.int .i64 a1.Word.High), (.bool a1.Word.Fence), (.bool a1.Word.Leave)])] M [] (f_client_Begin_post a0 a1 v0_4 v1_10 res) := by
 unfold f_client_Begin at h
 refine Tri.enter (fn := Try.f10) Try.func10 rfl (Nat.le_of_ble_eq_true rfl) ?_
 intro F ρ hρ
 refine Sr ?_
 refine WL.eff (EO.box (cs := #[(.int .i64 a0.Id), (.int .i64 a0.Serial), (.int .i64 a0.Voters), (.int .i64 a0.Node), v0_4, (.int .i64 a0.Tries)]) (congrArg Value.cells (asE (.agg #[(.int .i64 a0.Id), (.int .i64 a0.Serial), (.int .i64 a0.Voters), (.int .i64 a0.Node), v0_4, (.int .i64 a0.Tries)]) (hρ 0)))) rfl ?_
 rintro _ _ _ - ⟨rfl, g21, rfl, rfl⟩
 refine WL.eff (EO.box (cs := #[(.int .i64 a1.Client), (.int .i64 a1.Serial), (.int .i64 a1.Kind), (.string a1.Name), (.string a1.Key), (.string a1.Value), (.bool a1.Flag), (.int .i64 a1.Parts), (.int .i64 a1.Replicas), (.int .i64 a1.Part), v1_10, (.int .i64 a1.Broker), (.int .i64 a1.Epoch), (.string a1.Rack), (.int .i64 a1.Word.Broker), (.int .i64 a1.Word.Epoch), (.int .i64 a1.Word.High), (.bool a1.Word.Fence), (.bool a1.Word.Leave)]) (congrArg Value.cells (asE (.agg #[(.int .i64 a1.Client), (.int .i64 a1.Serial), (.int .i64 a1.Kind), (.string a1.Name), (.string a1.Key), (.string a1.Value), (.bool a1.Flag), (.int .i64 a1.Parts), (.int .i64 a1.Replicas), (.int .i64 a1.Part), v1_10, (.int .i64 a1.Broker), (.int .i64 a1.Epoch), (.string a1.Rack), (.int .i64 a1.Word.Broker), (.int .i64 a1.Word.Epoch), (.int .i64 a1.Word.High), (.bool a1.Word.Fence), (.bool a1.Word.Leave)]) (hρ 1)))) rfl ?_
 rintro _ _ _ - ⟨rfl, g22, rfl, rfl⟩
 refine WL.eff (EO.alloc ze24 rfl) rfl ?_
 rintro _ _ _ - ⟨rfl, g23, rfl, rfl⟩
 refine Pa (GV GErr.nil) rfl rfl ?_
 refine Nt ?_
 refine WC.seq ?_
 refine WC.block ?_
 refine Sr ?_
 refine Pu (.pointer (some ⟨g21, 4, none⟩)) (PO.fieldAddr fo24_4 rfl rfl) rfl ?_
 refine Pu v0_4 (PO.loadB 2 pl22 rfl rfl rfl) rfl ?_
 refine Pu (.int .i64 (a0.Open.length : Int)) (PO.lenS Try.underlying22 rfl h0_4.len) rfl ?_
 refine Pu (.bool (decide ((0 : Int) < (a0.Open.length : Int)))) (PO.gtr rfl rfl) rfl ?_
 refine Pa (.bool (decide ((0 : Int) < (a0.Open.length : Int)))) rfl rfl ?_
 refine Nt ?_
 refine WC.cond (b := decide ((0 : Int) < (a0.Open.length : Int))) rfl (fun hb24 => ?_) (fun hb24 => ?_)
 have h := ite_t hb24 h
 refine WC.seq ?_
 refine WC.draw [0, 0, 2, 6, 15, 31] (.pure 0 (.pure 1 (.pure 2 (.alt 3 (.alt 4 (.pure 5 .done) .none) .none)))) mixed (by kernel_rfl) ?_
 refine Tp (.agg #[(.int .i64 a0.Id), (.int .i64 a0.Serial), (.int .i64 a0.Voters), (.int .i64 a0.Node), v0_4, (.int .i64 a0.Tries)]) rfl (PO.loadBA (cs := [(.int .i64 a0.Id), (.int .i64 a0.Serial), (.int .i64 a0.Voters), (.int .i64 a0.Node), v0_4, (.int .i64 a0.Tries)]) 2 ag24 sz24 rfl rfl rfl) rfl ?_
 refine Tp (.pointer (some ⟨g21, 1, none⟩)) rfl (PO.fieldAddr fo24_1 rfl rfl) rfl ?_
 refine Tp (.int .i64 a0.Serial) rfl (PO.loadB 2 pl3 rfl rfl rfl) rfl ?_
 obtain ⟨r25, hr26, h⟩ := bnd h
 refine WT.alt rfl (EO.call0 co20 (f_fault_New_ok (⟨#[111, 112, 101, 110]⟩ : ByteArray) a0.Serial (10 : Int) _ r25 hr26) (args3 rfl rfl rfl)) rfl ?_ ?_
 rintro _ M27 _ hle28 ⟨_, ⟨rfl, rfl⟩, rfl⟩
 have h0_4 := h0_4.mono hle28
 have h1_10 := h1_10.mono hle28
 refine ⟨(StabL.anc rfl (StabL.anc rfl (StabL.st (StabA.of rfl (PO.loadBA (cs := [(.int .i64 a0.Id), (.int .i64 a0.Serial), (.int .i64 a0.Voters), (.int .i64 a0.Node), v0_4, (.int .i64 a0.Tries)]) 2 ag24 sz24 rfl rfl rfl) rfl) trivial))), ?_⟩
 refine WT.a0 ?_
 refine WT.alt rfl (EO.storeL (v := (.agg #[(.int .i64 a0.Id), (.int .i64 a0.Serial), (.int .i64 a0.Voters), (.int .i64 a0.Node), v0_4, (.int .i64 a0.Tries)])) (vl := [(.int .i64 a0.Id), (.int .i64 a0.Serial), (.int .i64 a0.Voters), (.int .i64 a0.Node), v0_4, (.int .i64 a0.Tries)]) (arr' := [(.int .i64 a0.Id), (.int .i64 a0.Serial), (.int .i64 a0.Voters), (.int .i64 a0.Node), v0_4, (.int .i64 a0.Tries)]) rfl sz24 rfl rfl (onesOf (Ones.cons rfl (Ones.cons rfl (Ones.cons rfl (Ones.cons rfl (Ones.cons (RS.one h0_4) (Ones.cons rfl Ones.nil))))))) rfl rfl rfl) rfl ?_ ?_
 rintro _ _ _ - ⟨rfl, rfl⟩
 refine ⟨(StabL.anc rfl (StabL.anc rfl (StabL.anc rfl trivial))), ?_⟩
 refine Tp (GV r25) rfl (PO.assign rfl) rfl ?_
 refine WT.fin ?_
 refine WQ.thenC ?_
 refine WC.ret ?_
 refine WQ.blockR ?_
 refine WQ.thenR ?_
 refine WQ.f1 ?_
 refine WQ.drop ?_
 refine WQ.f1 ?_
 refine WQ.drop ?_
 exact WQ.returnsD h [] (fun _ hs => hs.drop) (resultsLN rfl (RVs.cons (RV.cellA (cs := [(.int .i64 a0.Id), (.int .i64 a0.Serial), (.int .i64 a0.Voters), (.int .i64 a0.Node), v0_4, (.int .i64 a0.Tries)]) 0 ag24 sz24 rfl rfl rfl) (RVs.cons (RV.tmp rfl) RVs.nil))) hle28 ⟨v0_4, rfl, rfl, h0_4⟩
 exact WT.no
 exact WT.no
 have h := ite_f hb24 h
 refine Sr ?_
 refine Pu (.pointer (some ⟨g21, 1, none⟩)) (PO.fieldAddr fo24_1 rfl rfl) rfl ?_
 refine Pu (.int .i64 a0.Serial) (PO.loadB 2 pl3 rfl rfl rfl) rfl ?_
 refine Pu (.bool (decide (a0.Serial = (1073741824 : Int)))) (PO.eql rfl rfl) rfl ?_
 refine Pa (.bool (decide (a0.Serial = (1073741824 : Int)))) rfl rfl ?_
 refine Nt ?_
 refine WC.cond (b := decide (a0.Serial = (1073741824 : Int))) rfl (fun hb30 => ?_) (fun hb30 => ?_)
 have h := ite_t hb30 h
 refine WC.seq ?_
 refine WC.draw [0, 0, 2, 6, 15, 31] (.pure 0 (.pure 1 (.pure 2 (.alt 3 (.alt 4 (.pure 5 .done) .none) .none)))) mixed (by kernel_rfl) ?_
 refine Tp (.agg #[(.int .i64 a0.Id), (.int .i64 a0.Serial), (.int .i64 a0.Voters), (.int .i64 a0.Node), v0_4, (.int .i64 a0.Tries)]) rfl (PO.loadBA (cs := [(.int .i64 a0.Id), (.int .i64 a0.Serial), (.int .i64 a0.Voters), (.int .i64 a0.Node), v0_4, (.int .i64 a0.Tries)]) 2 ag24 sz24 rfl rfl rfl) rfl ?_
 refine Tp (.pointer (some ⟨g21, 1, none⟩)) rfl (PO.fieldAddr fo24_1 rfl rfl) rfl ?_
 refine Tp (.int .i64 a0.Serial) rfl (PO.loadB 2 pl3 rfl rfl rfl) rfl ?_
 obtain ⟨r31, hr32, h⟩ := bnd h
 refine WT.alt rfl (EO.call0 co20 (f_fault_New_ok (⟨#[115, 101, 114, 105, 97, 108]⟩ : ByteArray) a0.Serial (7 : Int) _ r31 hr32) (args3 rfl rfl rfl)) rfl ?_ ?_
 rintro _ M33 _ hle34 ⟨_, ⟨rfl, rfl⟩, rfl⟩
 have h0_4 := h0_4.mono hle34
 have h1_10 := h1_10.mono hle34
 refine ⟨(StabL.anc rfl (StabL.anc rfl (StabL.st (StabA.of rfl (PO.loadBA (cs := [(.int .i64 a0.Id), (.int .i64 a0.Serial), (.int .i64 a0.Voters), (.int .i64 a0.Node), v0_4, (.int .i64 a0.Tries)]) 2 ag24 sz24 rfl rfl rfl) rfl) trivial))), ?_⟩
 refine WT.a0 ?_
 refine WT.alt rfl (EO.storeL (v := (.agg #[(.int .i64 a0.Id), (.int .i64 a0.Serial), (.int .i64 a0.Voters), (.int .i64 a0.Node), v0_4, (.int .i64 a0.Tries)])) (vl := [(.int .i64 a0.Id), (.int .i64 a0.Serial), (.int .i64 a0.Voters), (.int .i64 a0.Node), v0_4, (.int .i64 a0.Tries)]) (arr' := [(.int .i64 a0.Id), (.int .i64 a0.Serial), (.int .i64 a0.Voters), (.int .i64 a0.Node), v0_4, (.int .i64 a0.Tries)]) rfl sz24 rfl rfl (onesOf (Ones.cons rfl (Ones.cons rfl (Ones.cons rfl (Ones.cons rfl (Ones.cons (RS.one h0_4) (Ones.cons rfl Ones.nil))))))) rfl rfl rfl) rfl ?_ ?_
 rintro _ _ _ - ⟨rfl, rfl⟩
 refine ⟨(StabL.anc rfl (StabL.anc rfl (StabL.anc rfl trivial))), ?_⟩
 refine Tp (GV r31) rfl (PO.assign rfl) rfl ?_
 refine WT.fin ?_
 refine WQ.thenC ?_
 refine WC.ret ?_
 refine WQ.blockR ?_
 refine WQ.thenR ?_
 refine WQ.f1 ?_
 refine WQ.drop ?_
 refine WQ.f1 ?_
 refine WQ.drop ?_
 exact WQ.returnsD h [] (fun _ hs => hs.drop) (resultsLN rfl (RVs.cons (RV.cellA (cs := [(.int .i64 a0.Id), (.int .i64 a0.Serial), (.int .i64 a0.Voters), (.int .i64 a0.Node), v0_4, (.int .i64 a0.Tries)]) 0 ag24 sz24 rfl rfl rfl) (RVs.cons (RV.tmp rfl) RVs.nil))) hle34 ⟨v0_4, rfl, rfl, h0_4⟩
 exact WT.no
 exact WT.no
 have h := ite_f hb30 h
 refine WC.skip ?_
 refine WQ.blockN ?_
 refine WQ.thenC ?_
 refine Sr ?_
 refine Pu (.agg #[(.int .i64 a1.Client), (.int .i64 a1.Serial), (.int .i64 a1.Kind), (.string a1.Name), (.string a1.Key), (.string a1.Value), (.bool a1.Flag), (.int .i64 a1.Parts), (.int .i64 a1.Replicas), (.int .i64 a1.Part), v1_10, (.int .i64 a1.Broker), (.int .i64 a1.Epoch), (.string a1.Rack), (.int .i64 a1.Word.Broker), (.int .i64 a1.Word.Epoch), (.int .i64 a1.Word.High), (.bool a1.Word.Fence), (.bool a1.Word.Leave)]) (PO.loadBA (cs := [(.int .i64 a1.Client), (.int .i64 a1.Serial), (.int .i64 a1.Kind), (.string a1.Name), (.string a1.Key), (.string a1.Value), (.bool a1.Flag), (.int .i64 a1.Parts), (.int .i64 a1.Replicas), (.int .i64 a1.Part), v1_10, (.int .i64 a1.Broker), (.int .i64 a1.Epoch), (.string a1.Rack), (.int .i64 a1.Word.Broker), (.int .i64 a1.Word.Epoch), (.int .i64 a1.Word.High), (.bool a1.Word.Fence), (.bool a1.Word.Leave)]) 1 ag29 sz29 rfl rfl rfl) rfl ?_
 obtain ⟨r36, hr37, h⟩ := bnd h
 refine WL.eff (EO.call0 co21 (f_client_Alone_ok a1 _ _ h1_10 r36 hr37) (args1 rfl)) rfl ?_
 rintro _ M38 _ hle39 ⟨_, ⟨vq40_10, cq40_10, rfl, rfl, hq40_10⟩, rfl⟩
 have h1_10 := h1_10.mono hle39
 have h0_4 := h0_4.mono hle39
 refine WL.a1 ?_
 refine WL.f2 ?_
 refine WL.eff (EO.storeL (v := (.agg #[(.int .i64 r36.Client), (.int .i64 r36.Serial), (.int .i64 r36.Kind), (.string r36.Name), (.string r36.Key), (.string r36.Value), (.bool r36.Flag), (.int .i64 r36.Parts), (.int .i64 r36.Replicas), (.int .i64 r36.Part), vq40_10, (.int .i64 r36.Broker), (.int .i64 r36.Epoch), (.string r36.Rack), (.int .i64 r36.Word.Broker), (.int .i64 r36.Word.Epoch), (.int .i64 r36.Word.High), (.bool r36.Word.Fence), (.bool r36.Word.Leave)])) (vl := [(.int .i64 r36.Client), (.int .i64 r36.Serial), (.int .i64 r36.Kind), (.string r36.Name), (.string r36.Key), (.string r36.Value), (.bool r36.Flag), (.int .i64 r36.Parts), (.int .i64 r36.Replicas), (.int .i64 r36.Part), vq40_10, (.int .i64 r36.Broker), (.int .i64 r36.Epoch), (.string r36.Rack), (.int .i64 r36.Word.Broker), (.int .i64 r36.Word.Epoch), (.int .i64 r36.Word.High), (.bool r36.Word.Fence), (.bool r36.Word.Leave)]) (arr' := [(.int .i64 r36.Client), (.int .i64 r36.Serial), (.int .i64 r36.Kind), (.string r36.Name), (.string r36.Key), (.string r36.Value), (.bool r36.Flag), (.int .i64 r36.Parts), (.int .i64 r36.Replicas), (.int .i64 r36.Part), vq40_10, (.int .i64 r36.Broker), (.int .i64 r36.Epoch), (.string r36.Rack), (.int .i64 r36.Word.Broker), (.int .i64 r36.Word.Epoch), (.int .i64 r36.Word.High), (.bool r36.Word.Fence), (.bool r36.Word.Leave)]) rfl sz29 rfl rfl (onesOf (Ones.cons rfl (Ones.cons rfl (Ones.cons rfl (Ones.cons rfl (Ones.cons rfl (Ones.cons rfl (Ones.cons rfl (Ones.cons rfl (Ones.cons rfl (Ones.cons rfl (Ones.cons (OwnS.one hq40_10) (Ones.cons rfl (Ones.cons rfl (Ones.cons rfl (Ones.cons rfl (Ones.cons rfl (Ones.cons rfl (Ones.cons rfl (Ones.cons rfl Ones.nil)))))))))))))))))))) rfl rfl (by kernel_rfl)) rfl ?_
 rintro _ _ _ - ⟨rfl, rfl⟩
 refine Nt ?_
 refine WC.seq ?_
 refine WC.draw [0, 1, 0, 4, 12, 3, 35, 127, 255] (.pure 0 (.pure 1 (.pure 2 (.pure 3 (.pure 4 (.pure 5 (.alt 6 (.pure 7 (.alt 8 .done .none)) .none))))))) mixed (by kernel_rfl) ?_
 refine Tp (.pointer (some ⟨g21, 0, none⟩)) rfl (PO.fieldAddr fo24_0 rfl rfl) rfl ?_
 refine Tp (.int .i64 a0.Id) rfl (PO.loadB 3 pl3 rfl rfl rfl) rfl ?_
 refine Tp (.pointer (some ⟨g21, 1, none⟩)) rfl (PO.fieldAddr fo24_1 rfl rfl) rfl ?_
 refine Tp (.int .i64 a0.Serial) rfl (PO.loadB 3 pl3 rfl rfl rfl) rfl ?_
 refine Tp (.int .i64 (IntKind.i64.wrap (a0.Serial + (1 : Int)))) rfl (PO.add rfl rfl) rfl ?_
 refine Tp (.pointer (some ⟨g22, 0, none⟩)) rfl (PO.fieldAddr fo29_0 rfl rfl) rfl ?_
 refine WT.alt rfl (EO.storeL (v := (.int .i64 a0.Id)) (vl := [(.int .i64 a0.Id)]) (arr' := [(.int .i64 a0.Id), (.int .i64 r36.Serial), (.int .i64 r36.Kind), (.string r36.Name), (.string r36.Key), (.string r36.Value), (.bool r36.Flag), (.int .i64 r36.Parts), (.int .i64 r36.Replicas), (.int .i64 r36.Part), vq40_10, (.int .i64 r36.Broker), (.int .i64 r36.Epoch), (.string r36.Rack), (.int .i64 r36.Word.Broker), (.int .i64 r36.Word.Epoch), (.int .i64 r36.Word.High), (.bool r36.Word.Fence), (.bool r36.Word.Leave)]) rfl sz3 rfl rfl (onesOf (Ones.cons rfl Ones.nil)) rfl rfl (by kernel_rfl)) rfl ?_ ?_
 rintro _ _ _ - ⟨rfl, rfl⟩
 refine ⟨(StabL.anc rfl (StabL.st (StabA.of rfl (PO.add rfl rfl) rfl) (StabL.st (StabA.of rfl (PO.loadB 3 pl3 rfl rfl rfl) rfl) (StabL.st (StabA.of rfl (PO.fieldAddr fo24_1 rfl rfl) rfl) (StabL.anc rfl (StabL.anc rfl trivial)))))), ?_⟩
 refine Tp (.pointer (some ⟨g22, 1, none⟩)) rfl (PO.fieldAddr fo29_1 rfl rfl) rfl ?_
 refine WT.alt rfl (EO.storeL (v := (.int .i64 (IntKind.i64.wrap (a0.Serial + (1 : Int))))) (vl := [(.int .i64 (IntKind.i64.wrap (a0.Serial + (1 : Int))))]) (arr' := [(.int .i64 a0.Id), (.int .i64 (IntKind.i64.wrap (a0.Serial + (1 : Int)))), (.int .i64 r36.Kind), (.string r36.Name), (.string r36.Key), (.string r36.Value), (.bool r36.Flag), (.int .i64 r36.Parts), (.int .i64 r36.Replicas), (.int .i64 r36.Part), vq40_10, (.int .i64 r36.Broker), (.int .i64 r36.Epoch), (.string r36.Rack), (.int .i64 r36.Word.Broker), (.int .i64 r36.Word.Epoch), (.int .i64 r36.Word.High), (.bool r36.Word.Fence), (.bool r36.Word.Leave)]) rfl sz3 rfl rfl (onesOf (Ones.cons rfl Ones.nil)) rfl rfl (by kernel_rfl)) rfl ?_ ?_
 rintro _ _ _ - ⟨rfl, rfl⟩
 refine ⟨(StabL.anc rfl (StabL.anc rfl (StabL.anc rfl (StabL.anc rfl (StabL.anc rfl (StabL.anc rfl (StabL.anc rfl trivial))))))), ?_⟩
 refine WT.fin ?_
 refine WQ.thenC ?_
 refine WC.seq ?_
 refine Sr ?_
 refine Pu (.agg #[(.int .i64 a0.Id), (.int .i64 (IntKind.i64.wrap (a0.Serial + (1 : Int)))), (.int .i64 r36.Kind), (.string r36.Name), (.string r36.Key), (.string r36.Value), (.bool r36.Flag), (.int .i64 r36.Parts), (.int .i64 r36.Replicas), (.int .i64 r36.Part), vq40_10, (.int .i64 r36.Broker), (.int .i64 r36.Epoch), (.string r36.Rack), (.int .i64 r36.Word.Broker), (.int .i64 r36.Word.Epoch), (.int .i64 r36.Word.High), (.bool r36.Word.Fence), (.bool r36.Word.Leave)]) (PO.loadBA (cs := [(.int .i64 a0.Id), (.int .i64 (IntKind.i64.wrap (a0.Serial + (1 : Int)))), (.int .i64 r36.Kind), (.string r36.Name), (.string r36.Key), (.string r36.Value), (.bool r36.Flag), (.int .i64 r36.Parts), (.int .i64 r36.Replicas), (.int .i64 r36.Part), vq40_10, (.int .i64 r36.Broker), (.int .i64 r36.Epoch), (.string r36.Rack), (.int .i64 r36.Word.Broker), (.int .i64 r36.Word.Epoch), (.int .i64 r36.Word.High), (.bool r36.Word.Fence), (.bool r36.Word.Leave)]) 0 ag29 sz29 rfl rfl rfl) rfl ?_
 obtain ⟨r41, hr42, h⟩ := bnd h
 refine WL.f1 ?_
 refine WL.eff (EO.call1 co22 (Tri.lend fun w0_ H0_ hs0_ => (f_ask_Check_ok (⟨a0.Id, IntKind.i64.wrap (a0.Serial + (1 : Int)), r36.Kind, r36.Name, r36.Key, r36.Value, r36.Flag, r36.Parts, r36.Replicas, r36.Part, r36.Ids, r36.Broker, r36.Epoch, r36.Rack, r36.Word⟩ : T_api_Request) _ _ (hq40_10.rs hs0_) r41 hr42)) (args1 rfl)) rfl ?_
 rintro _ _ _ hle44 ⟨_, ⟨Ml46, Hl47, hll48, rfl, rfl, ⟨rfl, rfl⟩⟩, rfl⟩
 have hq40_10 := hq40_10.mono hle44
 have h0_4 := h0_4.mono hle44
 refine WL.a1 ?_
 refine Pa (GV r41) rfl rfl ?_
 refine Ns ?_
 refine Pm (GV r41) rfl rfl ?_
 refine Pu (.bool (!r41.isNil)) (PO.errNotNil Try.underlying40 rfl) rfl ?_
 refine Nt ?_
 refine WC.cond (b := !r41.isNil) rfl (fun hb49 => ?_) (fun hb49 => ?_)
 have h := ite_t hb49 h
 refine WC.seq ?_
 refine WC.draw [0, 0, 2, 0, 14, 31, 63] (.pure 0 (.pure 1 (.pure 2 (.pure 3 (.alt 4 (.alt 5 (.pure 6 .done) .none) .none))))) mixed (by kernel_rfl) ?_
 refine Tp (.agg #[(.int .i64 a0.Id), (.int .i64 a0.Serial), (.int .i64 a0.Voters), (.int .i64 a0.Node), v0_4, (.int .i64 a0.Tries)]) rfl (PO.loadBA (cs := [(.int .i64 a0.Id), (.int .i64 a0.Serial), (.int .i64 a0.Voters), (.int .i64 a0.Node), v0_4, (.int .i64 a0.Tries)]) 3 ag24 sz24 rfl rfl rfl) rfl ?_
 refine Tp (.pointer (some ⟨g21, 1, none⟩)) rfl (PO.fieldAddr fo24_1 rfl rfl) rfl ?_
 refine Tp (.int .i64 a0.Serial) rfl (PO.loadB 3 pl3 rfl rfl rfl) rfl ?_
 refine Tp (GV r41) rfl (PO.move rfl) rfl ?_
 obtain ⟨r50, hr51, h⟩ := bnd h
 refine WT.alt rfl (EO.call0 co23 (f_fault_Wrap_ok (⟨#[98, 101, 103, 105, 110]⟩ : ByteArray) a0.Serial r41 _ r50 hr51) (args3 rfl rfl rfl)) rfl ?_ ?_
 rintro _ M52 _ hle53 ⟨_, ⟨rfl, rfl⟩, rfl⟩
 have h0_4 := h0_4.mono hle53
 have hq40_10 := hq40_10.mono hle53
 refine ⟨(StabL.anc rfl (StabL.anc rfl (StabL.anc rfl (StabL.st (StabA.of rfl (PO.loadBA (cs := [(.int .i64 a0.Id), (.int .i64 a0.Serial), (.int .i64 a0.Voters), (.int .i64 a0.Node), v0_4, (.int .i64 a0.Tries)]) 3 ag24 sz24 rfl rfl rfl) rfl) trivial)))), ?_⟩
 refine WT.a0 ?_
 refine WT.f2 ?_
 refine WT.alt rfl (EO.storeL (v := (.agg #[(.int .i64 a0.Id), (.int .i64 a0.Serial), (.int .i64 a0.Voters), (.int .i64 a0.Node), v0_4, (.int .i64 a0.Tries)])) (vl := [(.int .i64 a0.Id), (.int .i64 a0.Serial), (.int .i64 a0.Voters), (.int .i64 a0.Node), v0_4, (.int .i64 a0.Tries)]) (arr' := [(.int .i64 a0.Id), (.int .i64 a0.Serial), (.int .i64 a0.Voters), (.int .i64 a0.Node), v0_4, (.int .i64 a0.Tries)]) rfl sz24 rfl rfl (onesOf (Ones.cons rfl (Ones.cons rfl (Ones.cons rfl (Ones.cons rfl (Ones.cons (RS.one h0_4) (Ones.cons rfl Ones.nil))))))) rfl rfl rfl) rfl ?_ ?_
 rintro _ _ _ - ⟨rfl, rfl⟩
 refine ⟨(StabL.anc rfl (StabL.anc rfl (StabL.anc rfl (StabL.anc rfl trivial)))), ?_⟩
 refine Tp (GV r50) rfl (PO.assign rfl) rfl ?_
 refine WT.fin ?_
 refine WQ.thenC ?_
 refine WC.ret ?_
 refine WQ.thenR ?_
 refine WQ.f1 ?_
 refine WQ.drop ?_
 refine WQ.f1 ?_
 refine WQ.drop ?_
 refine WQ.f1 ?_
 refine WQ.drop ?_
 exact WQ.returnsD h [] (fun _ hs => hs.drop) (resultsLN rfl (RVs.cons (RV.cellA (cs := [(.int .i64 a0.Id), (.int .i64 a0.Serial), (.int .i64 a0.Voters), (.int .i64 a0.Node), v0_4, (.int .i64 a0.Tries)]) 0 ag24 sz24 rfl rfl rfl) (RVs.cons (RV.tmp rfl) RVs.nil))) ((hle39.trans hle44).trans hle53) ⟨v0_4, rfl, rfl, h0_4⟩
 exact WT.no
 exact WT.no
 have h := ite_f hb49 h
 refine WC.skip ?_
 refine WQ.thenC ?_
 refine Sr ?_
 refine Pu (.pointer (some ⟨g21, 1, none⟩)) (PO.fieldAddr fo24_1 rfl rfl) rfl ?_
 refine Pu (.int .i64 a0.Serial) (PO.loadB 3 pl3 rfl rfl rfl) rfl ?_
 refine Pu (.int .i64 (IntKind.i64.wrap (a0.Serial + (1 : Int)))) (PO.add rfl rfl) rfl ?_
 refine Pu (.pointer (some ⟨g21, 1, none⟩)) (PO.fieldAddr fo24_1 rfl rfl) rfl ?_
 refine WL.f3 ?_
 refine WL.eff (EO.storeL (v := (.int .i64 (IntKind.i64.wrap (a0.Serial + (1 : Int))))) (vl := [(.int .i64 (IntKind.i64.wrap (a0.Serial + (1 : Int))))]) (arr' := [(.int .i64 a0.Id), (.int .i64 (IntKind.i64.wrap (a0.Serial + (1 : Int)))), (.int .i64 a0.Voters), (.int .i64 a0.Node), v0_4, (.int .i64 a0.Tries)]) rfl sz3 rfl rfl (onesOf (Ones.cons rfl Ones.nil)) rfl rfl rfl) rfl ?_
 rintro _ _ _ - ⟨rfl, rfl⟩
 refine Ns ?_
 refine Pu (.agg #[(.int .i64 a0.Id), (.int .i64 (IntKind.i64.wrap (a0.Serial + (1 : Int)))), (.int .i64 r36.Kind), (.string r36.Name), (.string r36.Key), (.string r36.Value), (.bool r36.Flag), (.int .i64 r36.Parts), (.int .i64 r36.Replicas), (.int .i64 r36.Part), vq40_10, (.int .i64 r36.Broker), (.int .i64 r36.Epoch), (.string r36.Rack), (.int .i64 r36.Word.Broker), (.int .i64 r36.Word.Epoch), (.int .i64 r36.Word.High), (.bool r36.Word.Fence), (.bool r36.Word.Leave)]) (PO.loadBA (cs := [(.int .i64 a0.Id), (.int .i64 (IntKind.i64.wrap (a0.Serial + (1 : Int)))), (.int .i64 r36.Kind), (.string r36.Name), (.string r36.Key), (.string r36.Value), (.bool r36.Flag), (.int .i64 r36.Parts), (.int .i64 r36.Replicas), (.int .i64 r36.Part), vq40_10, (.int .i64 r36.Broker), (.int .i64 r36.Epoch), (.string r36.Rack), (.int .i64 r36.Word.Broker), (.int .i64 r36.Word.Epoch), (.int .i64 r36.Word.High), (.bool r36.Word.Fence), (.bool r36.Word.Leave)]) 2 ag29 sz29 rfl rfl rfl) rfl ?_
 refine WL.f1 ?_
 refine WL.know (fun _ hs => hq40_10.rs hs) (fun hf59 => ?_)
 refine WL.freeze (fun hle58 => ?_)
 have h0_4 := h0_4.mono hle58
 refine WL.eff (EO.buildSliceL (cl := [(.int .i64 a0.Id), (.int .i64 (IntKind.i64.wrap (a0.Serial + (1 : Int)))), (.int .i64 r36.Kind), (.string r36.Name), (.string r36.Key), (.string r36.Value), (.bool r36.Flag), (.int .i64 r36.Parts), (.int .i64 r36.Replicas), (.int .i64 r36.Part), vq40_10, (.int .i64 r36.Broker), (.int .i64 r36.Epoch), (.string r36.Rack), (.int .i64 r36.Word.Broker), (.int .i64 r36.Word.Epoch), (.int .i64 r36.Word.High), (.bool r36.Word.Fence), (.bool r36.Word.Leave)]) Try.underlying22 iz29 rfl (Parts.cons (congrArg Value.cells (show ev _ _ = (.agg #[(.int .i64 a0.Id), (.int .i64 (IntKind.i64.wrap (a0.Serial + (1 : Int)))), (.int .i64 r36.Kind), (.string r36.Name), (.string r36.Key), (.string r36.Value), (.bool r36.Flag), (.int .i64 r36.Parts), (.int .i64 r36.Replicas), (.int .i64 r36.Part), vq40_10, (.int .i64 r36.Broker), (.int .i64 r36.Epoch), (.string r36.Rack), (.int .i64 r36.Word.Broker), (.int .i64 r36.Word.Epoch), (.int .i64 r36.Word.High), (.bool r36.Word.Fence), (.bool r36.Word.Leave)]) from rfl)) Parts.nil) rfl) rfl ?_
 rintro _ _ _ - ⟨rfl, g60, rfl, rfl⟩
 have h62 : OwnS kd_api_Request ((Ml46.minus cq40_10).add cq40_10) (.slice (some ⟨g60, 0, none⟩) 1 1) [(⟨a0.Id, IntKind.i64.wrap (a0.Serial + (1 : Int)), r36.Kind, r36.Name, r36.Key, r36.Value, r36.Flag, r36.Parts, r36.Replicas, r36.Part, r36.Ids, r36.Broker, r36.Epoch, r36.Rack, r36.Word⟩ : T_api_Request)] [(g60, .cells #[(.int .i64 a0.Id), (.int .i64 (IntKind.i64.wrap (a0.Serial + (1 : Int)))), (.int .i64 r36.Kind), (.string r36.Name), (.string r36.Key), (.string r36.Value), (.bool r36.Flag), (.int .i64 r36.Parts), (.int .i64 r36.Replicas), (.int .i64 r36.Part), vq40_10, (.int .i64 r36.Broker), (.int .i64 r36.Epoch), (.string r36.Rack), (.int .i64 r36.Word.Broker), (.int .i64 r36.Word.Epoch), (.int .i64 r36.Word.High), (.bool r36.Word.Fence), (.bool r36.Word.Leave)] 29 (0, 0))] := OwnS.rows (css := [[(.int .i64 a0.Id), (.int .i64 (IntKind.i64.wrap (a0.Serial + (1 : Int)))), (.int .i64 r36.Kind), (.string r36.Name), (.string r36.Key), (.string r36.Value), (.bool r36.Flag), (.int .i64 r36.Parts), (.int .i64 r36.Replicas), (.int .i64 r36.Part), vq40_10, (.int .i64 r36.Broker), (.int .i64 r36.Epoch), (.string r36.Rack), (.int .i64 r36.Word.Broker), (.int .i64 r36.Word.Epoch), (.int .i64 r36.Word.High), (.bool r36.Word.Fence), (.bool r36.Word.Leave)]]) (Rows.cons (kd_api_Request_mk (x := (⟨a0.Id, IntKind.i64.wrap (a0.Serial + (1 : Int)), r36.Kind, r36.Name, r36.Key, r36.Value, r36.Flag, r36.Parts, r36.Replicas, r36.Part, r36.Ids, r36.Broker, r36.Epoch, r36.Rack, r36.Word⟩ : T_api_Request)) hf59) Rows.nil) rfl rfl
 refine Pu (.pointer (some ⟨g21, 4, none⟩)) (PO.fieldAddr fo24_4 rfl rfl) rfl ?_
 refine WL.f1 ?_
 refine WL.eff (EO.storeL (v := (.slice (some ⟨g60, 0, none⟩) 1 1)) (vl := [(.slice (some ⟨g60, 0, none⟩) 1 1)]) (arr' := [(.int .i64 a0.Id), (.int .i64 (IntKind.i64.wrap (a0.Serial + (1 : Int)))), (.int .i64 a0.Voters), (.int .i64 a0.Node), (.slice (some ⟨g60, 0, none⟩) 1 1), (.int .i64 a0.Tries)]) h62.cells sz22 rfl rfl (onesOf (Ones.cons (OwnS.one h62) Ones.nil)) rfl rfl rfl) rfl ?_
 rintro _ _ _ - ⟨rfl, rfl⟩
 refine Pu (.pointer (some ⟨g21, 5, none⟩)) (PO.fieldAddr fo24_5 rfl rfl) rfl ?_
 refine WL.eff (EO.storeL (v := (.int .i64 (0 : Int))) (vl := [(.int .i64 (0 : Int))]) (arr' := [(.int .i64 a0.Id), (.int .i64 (IntKind.i64.wrap (a0.Serial + (1 : Int)))), (.int .i64 a0.Voters), (.int .i64 a0.Node), (.slice (some ⟨g60, 0, none⟩) 1 1), (.int .i64 (0 : Int))]) rfl sz3 rfl rfl (onesOf (Ones.cons rfl Ones.nil)) rfl rfl rfl) rfl ?_
 rintro _ _ _ - ⟨rfl, rfl⟩
 refine Ns ?_
 refine Pu (.agg #[(.int .i64 a0.Id), (.int .i64 (IntKind.i64.wrap (a0.Serial + (1 : Int)))), (.int .i64 a0.Voters), (.int .i64 a0.Node), (.slice (some ⟨g60, 0, none⟩) 1 1), (.int .i64 (0 : Int))]) (PO.loadBA (cs := [(.int .i64 a0.Id), (.int .i64 (IntKind.i64.wrap (a0.Serial + (1 : Int)))), (.int .i64 a0.Voters), (.int .i64 a0.Node), (.slice (some ⟨g60, 0, none⟩) 1 1), (.int .i64 (0 : Int))]) 0 ag24 sz24 rfl rfl rfl) rfl ?_
 refine WL.f3 ?_
 refine WL.eff (EO.storeL (v := (.agg #[(.int .i64 a0.Id), (.int .i64 (IntKind.i64.wrap (a0.Serial + (1 : Int)))), (.int .i64 a0.Voters), (.int .i64 a0.Node), (.slice (some ⟨g60, 0, none⟩) 1 1), (.int .i64 (0 : Int))])) (vl := [(.int .i64 a0.Id), (.int .i64 (IntKind.i64.wrap (a0.Serial + (1 : Int)))), (.int .i64 a0.Voters), (.int .i64 a0.Node), (.slice (some ⟨g60, 0, none⟩) 1 1), (.int .i64 (0 : Int))]) (arr' := [(.int .i64 a0.Id), (.int .i64 (IntKind.i64.wrap (a0.Serial + (1 : Int)))), (.int .i64 a0.Voters), (.int .i64 a0.Node), (.slice (some ⟨g60, 0, none⟩) 1 1), (.int .i64 (0 : Int))]) rfl sz24 rfl rfl (onesOf (Ones.cons rfl (Ones.cons rfl (Ones.cons rfl (Ones.cons rfl (Ones.cons (OwnS.one h62) (Ones.cons rfl Ones.nil))))))) rfl rfl rfl) rfl ?_
 rintro _ _ _ - ⟨rfl, rfl⟩
 refine Pa (GV GErr.nil) rfl rfl ?_
 refine Nt ?_
 refine WC.ret ?_
 refine WQ.f2 ?_
 refine WQ.know (fun _ hs => h62.rs hs) (fun hf64 => ?_)
 refine WQ.freeze (fun hle63 => ?_)
 have hf59 := hf59.mono hle63
 refine WQ.f1 ?_
 refine WQ.drop ?_
 refine WQ.f1 ?_
 refine WQ.drop ?_
 exact WQ.returnsD h [] (fun _ hs => hs.drop) (resultsLN rfl (RVs.cons (RV.cellA (cs := [(.int .i64 a0.Id), (.int .i64 (IntKind.i64.wrap (a0.Serial + (1 : Int)))), (.int .i64 a0.Voters), (.int .i64 a0.Node), (.slice (some ⟨g60, 0, none⟩) 1 1), (.int .i64 (0 : Int))]) 0 ag24 sz24 rfl rfl rfl) (RVs.cons (RV.tmp rfl) RVs.nil))) (((hle39.trans hle44).trans hle58).trans hle63) ⟨(.slice (some ⟨g60, 0, none⟩) 1 1), rfl, rfl, hf64⟩
 exact WT.no
 exact WT.no

noncomputable def f_client_Ask (a0 : T_api_Client) : Option (T_api_Client × Int × T_api_Request × Bool) :=
  (if (decide ((a0.Open.length : Int) = (0 : Int))) = true then (some (a0, (0 : Int), (⟨(0 : Int), (0 : Int), (0 : Int), (⟨#[]⟩ : ByteArray), (⟨#[]⟩ : ByteArray), (⟨#[]⟩ : ByteArray), false, (0 : Int), (0 : Int), (0 : Int), [], (0 : Int), (0 : Int), (⟨#[]⟩ : ByteArray), (⟨(0 : Int), (0 : Int), (0 : Int), false, false⟩ : T_api_Word)⟩ : T_api_Request), false)) else (if (decide (a0.Tries = (50 : Int))) = true then (some ((⟨a0.Id, a0.Serial, a0.Voters, a0.Node, [], (0 : Int)⟩ : T_api_Client), (0 : Int), (⟨(0 : Int), (0 : Int), (0 : Int), (⟨#[]⟩ : ByteArray), (⟨#[]⟩ : ByteArray), (⟨#[]⟩ : ByteArray), false, (0 : Int), (0 : Int), (0 : Int), [], (0 : Int), (0 : Int), (⟨#[]⟩ : ByteArray), (⟨(0 : Int), (0 : Int), (0 : Int), false, false⟩ : T_api_Word)⟩ : T_api_Request), false)) else (grd (0 ≤ (0 : Int) ∧ (0 : Int) < a0.Open.length) ((f_client_Alone (⟨(rd a0.Open (0 : Int)).Client, (rd a0.Open (0 : Int)).Serial, (rd a0.Open (0 : Int)).Kind, (rd a0.Open (0 : Int)).Name, (rd a0.Open (0 : Int)).Key, (rd a0.Open (0 : Int)).Value, (rd a0.Open (0 : Int)).Flag, (rd a0.Open (0 : Int)).Parts, (rd a0.Open (0 : Int)).Replicas, (rd a0.Open (0 : Int)).Part, (rd a0.Open (0 : Int)).Ids, (rd a0.Open (0 : Int)).Broker, (rd a0.Open (0 : Int)).Epoch, (rd a0.Open (0 : Int)).Rack, ((rd a0.Open (0 : Int)).Word)⟩ : T_api_Request)).bind fun (r35 : T_api_Request) => (some ((⟨a0.Id, a0.Serial, a0.Voters, a0.Node, a0.Open, IntKind.i64.wrap (a0.Tries + (1 : Int))⟩ : T_api_Client), a0.Node, r35, true))))))
def f_client_Ask_post (a0 : T_api_Client) (v0_4 : Value) : (T_api_Client × Int × T_api_Request × Bool) → Value → IM → HL → Prop :=
  fun (p_ : (T_api_Client × Int × T_api_Request × Bool)) (v : Value) (M' : IM) (H' : HL) => match p_ with | (r0, r1, r2, r3) => ∃ vz0_4 vz2_10 cz2_10, (.tuple #[(.agg #[(.int .i64 r0.Id), (.int .i64 r0.Serial), (.int .i64 r0.Voters), (.int .i64 r0.Node), vz0_4, (.int .i64 r0.Tries)]), (.int .i64 r1), (.agg #[(.int .i64 r2.Client), (.int .i64 r2.Serial), (.int .i64 r2.Kind), (.string r2.Name), (.string r2.Key), (.string r2.Value), (.bool r2.Flag), (.int .i64 r2.Parts), (.int .i64 r2.Replicas), (.int .i64 r2.Part), vz2_10, (.int .i64 r2.Broker), (.int .i64 r2.Epoch), (.string r2.Rack), (.int .i64 r2.Word.Broker), (.int .i64 r2.Word.Epoch), (.int .i64 r2.Word.High), (.bool r2.Word.Fence), (.bool r2.Word.Leave)]), (.bool r3)]) = v ∧ H' = [cz2_10] ∧ RS kd_api_Request M' vz0_4 r0.Open ∧ OwnS (Kd.int .i64) M' vz2_10 r2.Ids cz2_10
set_option maxHeartbeats 8000000 in
set_option maxRecDepth 100000 in
theorem f_client_Ask_ok (a0 : T_api_Client) (M : IM) (v0_4 : Value) (h0_4 : RS kd_api_Request M v0_4 a0.Open) (res : (T_api_Client × Int × T_api_Request × Bool)) (h : f_client_Ask a0 = some res) :
    Tri Try.prog 11 #[(.agg #[(.int .i64 a0.Id), (.int .i64 a0.Serial), (.int .i64 a0.Voters), (.int .i64 a0.Node), v0_4, (.int .i64 a0.Tries)])] M [] (f_client_Ask_post a0 v0_4 res) := by
 unfold f_client_Ask at h
 refine Tri.enter (fn := Try.f11) Try.func11 rfl (Nat.le_of_ble_eq_true rfl) ?_
 intro F ρ hρ
 refine Sr ?_
 refine WL.eff (EO.box (cs := #[(.int .i64 a0.Id), (.int .i64 a0.Serial), (.int .i64 a0.Voters), (.int .i64 a0.Node), v0_4, (.int .i64 a0.Tries)]) (congrArg Value.cells (asE (.agg #[(.int .i64 a0.Id), (.int .i64 a0.Serial), (.int .i64 a0.Voters), (.int .i64 a0.Node), v0_4, (.int .i64 a0.Tries)]) (hρ 0)))) rfl ?_
 rintro _ _ _ - ⟨rfl, g21, rfl, rfl⟩
 refine WL.eff (EO.alloc ze24 rfl) rfl ?_
 rintro _ _ _ - ⟨rfl, g22, rfl, rfl⟩
 refine Pa (.int .i64 (0 : Int)) rfl rfl ?_
 refine WL.eff (EO.alloc ze29 rfl) rfl ?_
 rintro _ _ _ - ⟨rfl, g23, rfl, rfl⟩
 refine Pa (.bool false) rfl rfl ?_
 refine Nt ?_
 refine WC.seq ?_
 refine Sr ?_
 refine Pu (.pointer (some ⟨g21, 4, none⟩)) (PO.fieldAddr fo24_4 rfl rfl) rfl ?_
 refine Pu v0_4 (PO.loadB 2 pl22 rfl rfl rfl) rfl ?_
 refine Pu (.int .i64 (a0.Open.length : Int)) (PO.lenS Try.underlying22 rfl h0_4.len) rfl ?_
 refine Pu (.bool (decide ((a0.Open.length : Int) = (0 : Int)))) (PO.eql rfl rfl) rfl ?_
 refine Nt ?_
 refine WC.cond (b := decide ((a0.Open.length : Int) = (0 : Int))) rfl (fun hb24 => ?_) (fun hb24 => ?_)
 have h := ite_t hb24 h
 refine Sr ?_
 refine Pu (.agg #[(.int .i64 a0.Id), (.int .i64 a0.Serial), (.int .i64 a0.Voters), (.int .i64 a0.Node), v0_4, (.int .i64 a0.Tries)]) (PO.loadBA (cs := [(.int .i64 a0.Id), (.int .i64 a0.Serial), (.int .i64 a0.Voters), (.int .i64 a0.Node), v0_4, (.int .i64 a0.Tries)]) 2 ag24 sz24 rfl rfl rfl) rfl ?_
 refine Pu (.agg #[(.int .i64 (0 : Int)), (.int .i64 (0 : Int)), (.int .i64 (0 : Int)), (.string (⟨#[]⟩ : ByteArray)), (.string (⟨#[]⟩ : ByteArray)), (.string (⟨#[]⟩ : ByteArray)), (.bool false), (.int .i64 (0 : Int)), (.int .i64 (0 : Int)), (.int .i64 (0 : Int)), (.slice none 0 0), (.int .i64 (0 : Int)), (.int .i64 (0 : Int)), (.string (⟨#[]⟩ : ByteArray)), (.int .i64 (0 : Int)), (.int .i64 (0 : Int)), (.int .i64 (0 : Int)), (.bool false), (.bool false)]) (PO.buildL (cl := [(.int .i64 (0 : Int)), (.int .i64 (0 : Int)), (.int .i64 (0 : Int)), (.string (⟨#[]⟩ : ByteArray)), (.string (⟨#[]⟩ : ByteArray)), (.string (⟨#[]⟩ : ByteArray)), (.bool false), (.int .i64 (0 : Int)), (.int .i64 (0 : Int)), (.int .i64 (0 : Int)), (.slice none 0 0), (.int .i64 (0 : Int)), (.int .i64 (0 : Int)), (.string (⟨#[]⟩ : ByteArray)), (.int .i64 (0 : Int)), (.int .i64 (0 : Int)), (.int .i64 (0 : Int)), (.bool false), (.bool false)]) ze29 fp29 Parts.nil rfl) rfl ?_
 refine WL.f1 ?_
 refine WL.eff (EO.storeL (v := (.agg #[(.int .i64 a0.Id), (.int .i64 a0.Serial), (.int .i64 a0.Voters), (.int .i64 a0.Node), v0_4, (.int .i64 a0.Tries)])) (vl := [(.int .i64 a0.Id), (.int .i64 a0.Serial), (.int .i64 a0.Voters), (.int .i64 a0.Node), v0_4, (.int .i64 a0.Tries)]) (arr' := [(.int .i64 a0.Id), (.int .i64 a0.Serial), (.int .i64 a0.Voters), (.int .i64 a0.Node), v0_4, (.int .i64 a0.Tries)]) rfl sz24 rfl rfl (onesOf (Ones.cons rfl (Ones.cons rfl (Ones.cons rfl (Ones.cons rfl (Ones.cons (RS.one h0_4) (Ones.cons rfl Ones.nil))))))) rfl rfl rfl) rfl ?_
 rintro _ _ _ - ⟨rfl, rfl⟩
 refine Pa (.int .i64 (0 : Int)) rfl rfl ?_
 refine WL.f1 ?_
 refine WL.eff (EO.storeL (v := (.agg #[(.int .i64 (0 : Int)), (.int .i64 (0 : Int)), (.int .i64 (0 : Int)), (.string (⟨#[]⟩ : ByteArray)), (.string (⟨#[]⟩ : ByteArray)), (.string (⟨#[]⟩ : ByteArray)), (.bool false), (.int .i64 (0 : Int)), (.int .i64 (0 : Int)), (.int .i64 (0 : Int)), (.slice none 0 0), (.int .i64 (0 : Int)), (.int .i64 (0 : Int)), (.string (⟨#[]⟩ : ByteArray)), (.int .i64 (0 : Int)), (.int .i64 (0 : Int)), (.int .i64 (0 : Int)), (.bool false), (.bool false)])) (vl := [(.int .i64 (0 : Int)), (.int .i64 (0 : Int)), (.int .i64 (0 : Int)), (.string (⟨#[]⟩ : ByteArray)), (.string (⟨#[]⟩ : ByteArray)), (.string (⟨#[]⟩ : ByteArray)), (.bool false), (.int .i64 (0 : Int)), (.int .i64 (0 : Int)), (.int .i64 (0 : Int)), (.slice none 0 0), (.int .i64 (0 : Int)), (.int .i64 (0 : Int)), (.string (⟨#[]⟩ : ByteArray)), (.int .i64 (0 : Int)), (.int .i64 (0 : Int)), (.int .i64 (0 : Int)), (.bool false), (.bool false)]) (arr' := [(.int .i64 (0 : Int)), (.int .i64 (0 : Int)), (.int .i64 (0 : Int)), (.string (⟨#[]⟩ : ByteArray)), (.string (⟨#[]⟩ : ByteArray)), (.string (⟨#[]⟩ : ByteArray)), (.bool false), (.int .i64 (0 : Int)), (.int .i64 (0 : Int)), (.int .i64 (0 : Int)), (.slice none 0 0), (.int .i64 (0 : Int)), (.int .i64 (0 : Int)), (.string (⟨#[]⟩ : ByteArray)), (.int .i64 (0 : Int)), (.int .i64 (0 : Int)), (.int .i64 (0 : Int)), (.bool false), (.bool false)]) rfl sz29 rfl rfl (onesOf (Ones.cons rfl (Ones.cons rfl (Ones.cons rfl (Ones.cons rfl (Ones.cons rfl (Ones.cons rfl (Ones.cons rfl (Ones.cons rfl (Ones.cons rfl (Ones.cons rfl (Ones.cons rfl (Ones.cons rfl (Ones.cons rfl (Ones.cons rfl (Ones.cons rfl (Ones.cons rfl (Ones.cons rfl (Ones.cons rfl (Ones.cons rfl Ones.nil)))))))))))))))))))) rfl rfl (by kernel_rfl)) rfl ?_
 rintro _ _ _ - ⟨rfl, rfl⟩
 refine Pa (.bool false) rfl rfl ?_
 refine Nt ?_
 refine WC.ret ?_
 refine WQ.thenR ?_
 refine WQ.e0 ?_
 refine WQ.f3 ?_
 refine WQ.drop ?_
 refine WQ.f1 ?_
 refine WQ.f2 ?_
 exact WQ.returnsD h [[]] (fun _ hs => hs.drop.drop) (resultsLN rfl (RVs.cons (RV.cellA (cs := [(.int .i64 a0.Id), (.int .i64 a0.Serial), (.int .i64 a0.Voters), (.int .i64 a0.Node), v0_4, (.int .i64 a0.Tries)]) 0 ag24 sz24 rfl rfl rfl) (RVs.cons (RV.tmp rfl) (RVs.cons (RV.cellA (cs := [(.int .i64 (0 : Int)), (.int .i64 (0 : Int)), (.int .i64 (0 : Int)), (.string (⟨#[]⟩ : ByteArray)), (.string (⟨#[]⟩ : ByteArray)), (.string (⟨#[]⟩ : ByteArray)), (.bool false), (.int .i64 (0 : Int)), (.int .i64 (0 : Int)), (.int .i64 (0 : Int)), (.slice none 0 0), (.int .i64 (0 : Int)), (.int .i64 (0 : Int)), (.string (⟨#[]⟩ : ByteArray)), (.int .i64 (0 : Int)), (.int .i64 (0 : Int)), (.int .i64 (0 : Int)), (.bool false), (.bool false)]) 1 ag29 sz29 rfl rfl rfl) (RVs.cons (RV.tmp rfl) RVs.nil))))) (IM.le.refl _) ⟨v0_4, (.slice none 0 0), [], rfl, rfl, h0_4, (OwnS.nil _ _)⟩
 have h := ite_f hb24 h
 refine WC.skip ?_
 refine WQ.thenC ?_
 refine WC.seq ?_
 refine Sr ?_
 refine Pu (.pointer (some ⟨g21, 5, none⟩)) (PO.fieldAddr fo24_5 rfl rfl) rfl ?_
 refine Pu (.int .i64 a0.Tries) (PO.loadB 2 pl3 rfl rfl rfl) rfl ?_
 refine Pu (.bool (decide (a0.Tries = (50 : Int)))) (PO.eql rfl rfl) rfl ?_
 refine Nt ?_
 refine WC.cond (b := decide (a0.Tries = (50 : Int))) rfl (fun hb26 => ?_) (fun hb26 => ?_)
 have h := ite_t hb26 h
 refine Sr ?_
 refine Pu (.pointer (some ⟨g21, 4, none⟩)) (PO.fieldAddr fo24_4 rfl rfl) rfl ?_
 refine WL.f2 ?_
 refine WL.eff (EO.storeL (v := (.slice none 0 0)) (vl := [(.slice none 0 0)]) (arr' := [(.int .i64 a0.Id), (.int .i64 a0.Serial), (.int .i64 a0.Voters), (.int .i64 a0.Node), (.slice none 0 0), (.int .i64 a0.Tries)]) rfl sz22 rfl rfl (onesOf (Ones.cons rfl Ones.nil)) rfl rfl rfl) rfl ?_
 rintro _ _ _ - ⟨rfl, rfl⟩
 refine Pu (.pointer (some ⟨g21, 5, none⟩)) (PO.fieldAddr fo24_5 rfl rfl) rfl ?_
 refine WL.eff (EO.storeL (v := (.int .i64 (0 : Int))) (vl := [(.int .i64 (0 : Int))]) (arr' := [(.int .i64 a0.Id), (.int .i64 a0.Serial), (.int .i64 a0.Voters), (.int .i64 a0.Node), (.slice none 0 0), (.int .i64 (0 : Int))]) rfl sz3 rfl rfl (onesOf (Ones.cons rfl Ones.nil)) rfl rfl rfl) rfl ?_
 rintro _ _ _ - ⟨rfl, rfl⟩
 refine Ns ?_
 refine Pu (.agg #[(.int .i64 a0.Id), (.int .i64 a0.Serial), (.int .i64 a0.Voters), (.int .i64 a0.Node), (.slice none 0 0), (.int .i64 (0 : Int))]) (PO.loadBA (cs := [(.int .i64 a0.Id), (.int .i64 a0.Serial), (.int .i64 a0.Voters), (.int .i64 a0.Node), (.slice none 0 0), (.int .i64 (0 : Int))]) 0 ag24 sz24 rfl rfl rfl) rfl ?_
 refine Pu (.agg #[(.int .i64 (0 : Int)), (.int .i64 (0 : Int)), (.int .i64 (0 : Int)), (.string (⟨#[]⟩ : ByteArray)), (.string (⟨#[]⟩ : ByteArray)), (.string (⟨#[]⟩ : ByteArray)), (.bool false), (.int .i64 (0 : Int)), (.int .i64 (0 : Int)), (.int .i64 (0 : Int)), (.slice none 0 0), (.int .i64 (0 : Int)), (.int .i64 (0 : Int)), (.string (⟨#[]⟩ : ByteArray)), (.int .i64 (0 : Int)), (.int .i64 (0 : Int)), (.int .i64 (0 : Int)), (.bool false), (.bool false)]) (PO.buildL (cl := [(.int .i64 (0 : Int)), (.int .i64 (0 : Int)), (.int .i64 (0 : Int)), (.string (⟨#[]⟩ : ByteArray)), (.string (⟨#[]⟩ : ByteArray)), (.string (⟨#[]⟩ : ByteArray)), (.bool false), (.int .i64 (0 : Int)), (.int .i64 (0 : Int)), (.int .i64 (0 : Int)), (.slice none 0 0), (.int .i64 (0 : Int)), (.int .i64 (0 : Int)), (.string (⟨#[]⟩ : ByteArray)), (.int .i64 (0 : Int)), (.int .i64 (0 : Int)), (.int .i64 (0 : Int)), (.bool false), (.bool false)]) ze29 fp29 Parts.nil rfl) rfl ?_
 refine WL.f2 ?_
 refine WL.eff (EO.storeL (v := (.agg #[(.int .i64 a0.Id), (.int .i64 a0.Serial), (.int .i64 a0.Voters), (.int .i64 a0.Node), (.slice none 0 0), (.int .i64 (0 : Int))])) (vl := [(.int .i64 a0.Id), (.int .i64 a0.Serial), (.int .i64 a0.Voters), (.int .i64 a0.Node), (.slice none 0 0), (.int .i64 (0 : Int))]) (arr' := [(.int .i64 a0.Id), (.int .i64 a0.Serial), (.int .i64 a0.Voters), (.int .i64 a0.Node), (.slice none 0 0), (.int .i64 (0 : Int))]) rfl sz24 rfl rfl (onesOf (Ones.cons rfl (Ones.cons rfl (Ones.cons rfl (Ones.cons rfl (Ones.cons rfl (Ones.cons rfl Ones.nil))))))) rfl rfl rfl) rfl ?_
 rintro _ _ _ - ⟨rfl, rfl⟩
 refine Pa (.int .i64 (0 : Int)) rfl rfl ?_
 refine WL.f2 ?_
 refine WL.eff (EO.storeL (v := (.agg #[(.int .i64 (0 : Int)), (.int .i64 (0 : Int)), (.int .i64 (0 : Int)), (.string (⟨#[]⟩ : ByteArray)), (.string (⟨#[]⟩ : ByteArray)), (.string (⟨#[]⟩ : ByteArray)), (.bool false), (.int .i64 (0 : Int)), (.int .i64 (0 : Int)), (.int .i64 (0 : Int)), (.slice none 0 0), (.int .i64 (0 : Int)), (.int .i64 (0 : Int)), (.string (⟨#[]⟩ : ByteArray)), (.int .i64 (0 : Int)), (.int .i64 (0 : Int)), (.int .i64 (0 : Int)), (.bool false), (.bool false)])) (vl := [(.int .i64 (0 : Int)), (.int .i64 (0 : Int)), (.int .i64 (0 : Int)), (.string (⟨#[]⟩ : ByteArray)), (.string (⟨#[]⟩ : ByteArray)), (.string (⟨#[]⟩ : ByteArray)), (.bool false), (.int .i64 (0 : Int)), (.int .i64 (0 : Int)), (.int .i64 (0 : Int)), (.slice none 0 0), (.int .i64 (0 : Int)), (.int .i64 (0 : Int)), (.string (⟨#[]⟩ : ByteArray)), (.int .i64 (0 : Int)), (.int .i64 (0 : Int)), (.int .i64 (0 : Int)), (.bool false), (.bool false)]) (arr' := [(.int .i64 (0 : Int)), (.int .i64 (0 : Int)), (.int .i64 (0 : Int)), (.string (⟨#[]⟩ : ByteArray)), (.string (⟨#[]⟩ : ByteArray)), (.string (⟨#[]⟩ : ByteArray)), (.bool false), (.int .i64 (0 : Int)), (.int .i64 (0 : Int)), (.int .i64 (0 : Int)), (.slice none 0 0), (.int .i64 (0 : Int)), (.int .i64 (0 : Int)), (.string (⟨#[]⟩ : ByteArray)), (.int .i64 (0 : Int)), (.int .i64 (0 : Int)), (.int .i64 (0 : Int)), (.bool false), (.bool false)]) rfl sz29 rfl rfl (onesOf (Ones.cons rfl (Ones.cons rfl (Ones.cons rfl (Ones.cons rfl (Ones.cons rfl (Ones.cons rfl (Ones.cons rfl (Ones.cons rfl (Ones.cons rfl (Ones.cons rfl (Ones.cons rfl (Ones.cons rfl (Ones.cons rfl (Ones.cons rfl (Ones.cons rfl (Ones.cons rfl (Ones.cons rfl (Ones.cons rfl (Ones.cons rfl Ones.nil)))))))))))))))))))) rfl rfl (by kernel_rfl)) rfl ?_
 rintro _ _ _ - ⟨rfl, rfl⟩
 refine Pa (.bool false) rfl rfl ?_
 refine Nt ?_
 refine WC.ret ?_
 refine WQ.thenR ?_
 refine WQ.e0 ?_
 refine WQ.f3 ?_
 refine WQ.drop ?_
 refine WQ.f1 ?_
 refine WQ.f2 ?_
 exact WQ.returnsD h [[]] (fun _ hs => hs.drop.drop) (resultsLN rfl (RVs.cons (RV.cellA (cs := [(.int .i64 a0.Id), (.int .i64 a0.Serial), (.int .i64 a0.Voters), (.int .i64 a0.Node), (.slice none 0 0), (.int .i64 (0 : Int))]) 0 ag24 sz24 rfl rfl rfl) (RVs.cons (RV.tmp rfl) (RVs.cons (RV.cellA (cs := [(.int .i64 (0 : Int)), (.int .i64 (0 : Int)), (.int .i64 (0 : Int)), (.string (⟨#[]⟩ : ByteArray)), (.string (⟨#[]⟩ : ByteArray)), (.string (⟨#[]⟩ : ByteArray)), (.bool false), (.int .i64 (0 : Int)), (.int .i64 (0 : Int)), (.int .i64 (0 : Int)), (.slice none 0 0), (.int .i64 (0 : Int)), (.int .i64 (0 : Int)), (.string (⟨#[]⟩ : ByteArray)), (.int .i64 (0 : Int)), (.int .i64 (0 : Int)), (.int .i64 (0 : Int)), (.bool false), (.bool false)]) 1 ag29 sz29 rfl rfl rfl) (RVs.cons (RV.tmp rfl) RVs.nil))))) (IM.le.refl _) ⟨(.slice none 0 0), (.slice none 0 0), [], rfl, rfl, RS.nil _ _, (OwnS.nil _ _)⟩
 have h := ite_f hb26 h
 refine WC.skip ?_
 refine WQ.thenC ?_
 refine Sr ?_
 refine Pu (.pointer (some ⟨g21, 5, none⟩)) (PO.fieldAddr fo24_5 rfl rfl) rfl ?_
 refine Pu (.int .i64 a0.Tries) (PO.loadB 2 pl3 rfl rfl rfl) rfl ?_
 refine Pu (.int .i64 (IntKind.i64.wrap (a0.Tries + (1 : Int)))) (PO.add rfl rfl) rfl ?_
 refine Pu (.pointer (some ⟨g21, 5, none⟩)) (PO.fieldAddr fo24_5 rfl rfl) rfl ?_
 refine WL.f2 ?_
 refine WL.eff (EO.storeL (v := (.int .i64 (IntKind.i64.wrap (a0.Tries + (1 : Int))))) (vl := [(.int .i64 (IntKind.i64.wrap (a0.Tries + (1 : Int))))]) (arr' := [(.int .i64 a0.Id), (.int .i64 a0.Serial), (.int .i64 a0.Voters), (.int .i64 a0.Node), v0_4, (.int .i64 (IntKind.i64.wrap (a0.Tries + (1 : Int))))]) rfl sz3 rfl rfl (onesOf (Ones.cons rfl Ones.nil)) rfl rfl rfl) rfl ?_
 rintro _ _ _ - ⟨rfl, rfl⟩
 refine Nt ?_
 refine WC.seq ?_
 refine WC.draw [0, 0, 2, 0, 8, 24, 56, 120, 249, 511, 1023, 2047] (.pure 0 (.pure 1 (.pure 2 (.pure 3 (.pure 4 (.pure 5 (.pure 6 (.alt 7 (.alt 8 (.pure 9 (.alt 10 (.pure 11 .done) .none)) .none) .none)))))))) mixed (by kernel_rfl) ?_
 refine Tp (.agg #[(.int .i64 a0.Id), (.int .i64 a0.Serial), (.int .i64 a0.Voters), (.int .i64 a0.Node), v0_4, (.int .i64 (IntKind.i64.wrap (a0.Tries + (1 : Int))))]) rfl (PO.loadBA (cs := [(.int .i64 a0.Id), (.int .i64 a0.Serial), (.int .i64 a0.Voters), (.int .i64 a0.Node), v0_4, (.int .i64 (IntKind.i64.wrap (a0.Tries + (1 : Int))))]) 0 ag24 sz24 rfl rfl rfl) rfl ?_
 refine Tp (.pointer (some ⟨g21, 3, none⟩)) rfl (PO.fieldAddr fo24_3 rfl rfl) rfl ?_
 refine Tp (.int .i64 a0.Node) rfl (PO.loadB 0 pl3 rfl rfl rfl) rfl ?_
 refine Tp (.pointer (some ⟨g21, 4, none⟩)) rfl (PO.fieldAddr fo24_4 rfl rfl) rfl ?_
 refine Tp v0_4 rfl (PO.loadB 0 pl22 rfl rfl rfl) rfl ?_
 obtain ⟨hg28, h⟩ := grd_i h
 obtain ⟨p29, cs30, hat31, hrc32, hhas33⟩ := h0_4.at hg28.1 hg28.2 (by decide)
 obtain ⟨vw34_10, rfl, hw34_10⟩ := kd_api_Request_open hrc32
 refine Tp (.pointer (some p29)) rfl (PO.indexAddr (n := a0.Open.length) Try.underlying22 sz29 rfl rfl hg28.1 hg28.2 hat31) rfl ?_
 refine Tp (.agg #[(.int .i64 ((rd a0.Open (0 : Int)).Client)), (.int .i64 ((rd a0.Open (0 : Int)).Serial)), (.int .i64 ((rd a0.Open (0 : Int)).Kind)), (.string ((rd a0.Open (0 : Int)).Name)), (.string ((rd a0.Open (0 : Int)).Key)), (.string ((rd a0.Open (0 : Int)).Value)), (.bool ((rd a0.Open (0 : Int)).Flag)), (.int .i64 ((rd a0.Open (0 : Int)).Parts)), (.int .i64 ((rd a0.Open (0 : Int)).Replicas)), (.int .i64 ((rd a0.Open (0 : Int)).Part)), vw34_10, (.int .i64 ((rd a0.Open (0 : Int)).Broker)), (.int .i64 ((rd a0.Open (0 : Int)).Epoch)), (.string ((rd a0.Open (0 : Int)).Rack)), (.int .i64 (((rd a0.Open (0 : Int)).Word).Broker)), (.int .i64 (((rd a0.Open (0 : Int)).Word).Epoch)), (.int .i64 (((rd a0.Open (0 : Int)).Word).High)), (.bool (((rd a0.Open (0 : Int)).Word).Fence)), (.bool (((rd a0.Open (0 : Int)).Word).Leave))]) rfl (PO.loadMA (cs := [(.int .i64 ((rd a0.Open (0 : Int)).Client)), (.int .i64 ((rd a0.Open (0 : Int)).Serial)), (.int .i64 ((rd a0.Open (0 : Int)).Kind)), (.string ((rd a0.Open (0 : Int)).Name)), (.string ((rd a0.Open (0 : Int)).Key)), (.string ((rd a0.Open (0 : Int)).Value)), (.bool ((rd a0.Open (0 : Int)).Flag)), (.int .i64 ((rd a0.Open (0 : Int)).Parts)), (.int .i64 ((rd a0.Open (0 : Int)).Replicas)), (.int .i64 ((rd a0.Open (0 : Int)).Part)), vw34_10, (.int .i64 ((rd a0.Open (0 : Int)).Broker)), (.int .i64 ((rd a0.Open (0 : Int)).Epoch)), (.string ((rd a0.Open (0 : Int)).Rack)), (.int .i64 (((rd a0.Open (0 : Int)).Word).Broker)), (.int .i64 (((rd a0.Open (0 : Int)).Word).Epoch)), (.int .i64 (((rd a0.Open (0 : Int)).Word).High)), (.bool (((rd a0.Open (0 : Int)).Word).Fence)), (.bool (((rd a0.Open (0 : Int)).Word).Leave))]) ag29 sz29 rfl hhas33) rfl ?_
 obtain ⟨r35, hr36, h⟩ := bnd h
 refine WT.alt rfl (EO.call0 co21 (f_client_Alone_ok (⟨(rd a0.Open (0 : Int)).Client, (rd a0.Open (0 : Int)).Serial, (rd a0.Open (0 : Int)).Kind, (rd a0.Open (0 : Int)).Name, (rd a0.Open (0 : Int)).Key, (rd a0.Open (0 : Int)).Value, (rd a0.Open (0 : Int)).Flag, (rd a0.Open (0 : Int)).Parts, (rd a0.Open (0 : Int)).Replicas, (rd a0.Open (0 : Int)).Part, (rd a0.Open (0 : Int)).Ids, (rd a0.Open (0 : Int)).Broker, (rd a0.Open (0 : Int)).Epoch, (rd a0.Open (0 : Int)).Rack, ((rd a0.Open (0 : Int)).Word)⟩ : T_api_Request) _ _ hw34_10 r35 hr36) (args1 rfl)) rfl ?_ ?_
 rintro _ M37 _ hle38 ⟨_, ⟨vq39_10, cq39_10, rfl, rfl, hq39_10⟩, rfl⟩
 have h0_4 := h0_4.mono hle38
 have hhas33 := hhas33.mono hle38
 have hw34_10 := hw34_10.mono hle38
 refine ⟨(StabL.anc rfl (StabL.anc rfl (StabL.anc rfl (StabL.anc rfl (StabL.st (StabA.of rfl (PO.loadB 1 pl3 rfl rfl rfl) rfl) (StabL.st (StabA.of rfl (PO.fieldAddr fo24_3 rfl rfl) rfl) (StabL.st (StabA.of rfl (PO.loadBA (cs := [(.int .i64 a0.Id), (.int .i64 a0.Serial), (.int .i64 a0.Voters), (.int .i64 a0.Node), v0_4, (.int .i64 (IntKind.i64.wrap (a0.Tries + (1 : Int))))]) 1 ag24 sz24 rfl rfl rfl) rfl) trivial))))))), ?_⟩
 refine WT.a1 ?_
 refine WT.f3 ?_
 refine WT.alt rfl (EO.storeL (v := (.agg #[(.int .i64 a0.Id), (.int .i64 a0.Serial), (.int .i64 a0.Voters), (.int .i64 a0.Node), v0_4, (.int .i64 (IntKind.i64.wrap (a0.Tries + (1 : Int))))])) (vl := [(.int .i64 a0.Id), (.int .i64 a0.Serial), (.int .i64 a0.Voters), (.int .i64 a0.Node), v0_4, (.int .i64 (IntKind.i64.wrap (a0.Tries + (1 : Int))))]) (arr' := [(.int .i64 a0.Id), (.int .i64 a0.Serial), (.int .i64 a0.Voters), (.int .i64 a0.Node), v0_4, (.int .i64 (IntKind.i64.wrap (a0.Tries + (1 : Int))))]) rfl sz24 rfl rfl (onesOf (Ones.cons rfl (Ones.cons rfl (Ones.cons rfl (Ones.cons rfl (Ones.cons (RS.one h0_4) (Ones.cons rfl Ones.nil))))))) rfl rfl rfl) rfl ?_ ?_
 rintro _ _ _ - ⟨rfl, rfl⟩
 refine ⟨(StabL.anc rfl (StabL.anc rfl (StabL.anc rfl (StabL.anc rfl (StabL.st (StabA.of rfl (PO.loadB 2 pl3 rfl rfl rfl) rfl) (StabL.st (StabA.of rfl (PO.fieldAddr fo24_3 rfl rfl) rfl) (StabL.anc rfl trivial))))))), ?_⟩
 refine Tp (.int .i64 a0.Node) rfl (PO.assign rfl) rfl ?_
 refine WT.f3 ?_
 refine WT.alt rfl (EO.storeL (v := (.agg #[(.int .i64 r35.Client), (.int .i64 r35.Serial), (.int .i64 r35.Kind), (.string r35.Name), (.string r35.Key), (.string r35.Value), (.bool r35.Flag), (.int .i64 r35.Parts), (.int .i64 r35.Replicas), (.int .i64 r35.Part), vq39_10, (.int .i64 r35.Broker), (.int .i64 r35.Epoch), (.string r35.Rack), (.int .i64 r35.Word.Broker), (.int .i64 r35.Word.Epoch), (.int .i64 r35.Word.High), (.bool r35.Word.Fence), (.bool r35.Word.Leave)])) (vl := [(.int .i64 r35.Client), (.int .i64 r35.Serial), (.int .i64 r35.Kind), (.string r35.Name), (.string r35.Key), (.string r35.Value), (.bool r35.Flag), (.int .i64 r35.Parts), (.int .i64 r35.Replicas), (.int .i64 r35.Part), vq39_10, (.int .i64 r35.Broker), (.int .i64 r35.Epoch), (.string r35.Rack), (.int .i64 r35.Word.Broker), (.int .i64 r35.Word.Epoch), (.int .i64 r35.Word.High), (.bool r35.Word.Fence), (.bool r35.Word.Leave)]) (arr' := [(.int .i64 r35.Client), (.int .i64 r35.Serial), (.int .i64 r35.Kind), (.string r35.Name), (.string r35.Key), (.string r35.Value), (.bool r35.Flag), (.int .i64 r35.Parts), (.int .i64 r35.Replicas), (.int .i64 r35.Part), vq39_10, (.int .i64 r35.Broker), (.int .i64 r35.Epoch), (.string r35.Rack), (.int .i64 r35.Word.Broker), (.int .i64 r35.Word.Epoch), (.int .i64 r35.Word.High), (.bool r35.Word.Fence), (.bool r35.Word.Leave)]) rfl sz29 rfl rfl (onesOf (Ones.cons rfl (Ones.cons rfl (Ones.cons rfl (Ones.cons rfl (Ones.cons rfl (Ones.cons rfl (Ones.cons rfl (Ones.cons rfl (Ones.cons rfl (Ones.cons rfl (Ones.cons (OwnS.one hq39_10) (Ones.cons rfl (Ones.cons rfl (Ones.cons rfl (Ones.cons rfl (Ones.cons rfl (Ones.cons rfl (Ones.cons rfl (Ones.cons rfl Ones.nil)))))))))))))))))))) rfl rfl (by kernel_rfl)) rfl ?_ ?_
 rintro _ _ _ - ⟨rfl, rfl⟩
 refine ⟨(StabL.anc rfl (StabL.anc rfl (StabL.anc rfl (StabL.anc rfl (StabL.anc rfl (StabL.anc rfl (StabL.anc rfl (StabL.anc rfl trivial)))))))), ?_⟩
 refine Tp (.bool true) rfl (PO.assign rfl) rfl ?_
 refine WT.fin ?_
 refine WQ.thenC ?_
 refine WC.ret ?_
 refine WQ.f3 ?_
 refine WQ.drop ?_
 refine WQ.f2 ?_
 refine WQ.f1 ?_
 refine WQ.f2 ?_
 exact WQ.returnsD h [cq39_10] (fun _ hs => hs.drop.drop) (resultsLN rfl (RVs.cons (RV.cellA (cs := [(.int .i64 a0.Id), (.int .i64 a0.Serial), (.int .i64 a0.Voters), (.int .i64 a0.Node), v0_4, (.int .i64 (IntKind.i64.wrap (a0.Tries + (1 : Int))))]) 0 ag24 sz24 rfl rfl rfl) (RVs.cons (RV.tmp rfl) (RVs.cons (RV.cellA (cs := [(.int .i64 r35.Client), (.int .i64 r35.Serial), (.int .i64 r35.Kind), (.string r35.Name), (.string r35.Key), (.string r35.Value), (.bool r35.Flag), (.int .i64 r35.Parts), (.int .i64 r35.Replicas), (.int .i64 r35.Part), vq39_10, (.int .i64 r35.Broker), (.int .i64 r35.Epoch), (.string r35.Rack), (.int .i64 r35.Word.Broker), (.int .i64 r35.Word.Epoch), (.int .i64 r35.Word.High), (.bool r35.Word.Fence), (.bool r35.Word.Leave)]) 1 ag29 sz29 rfl rfl rfl) (RVs.cons (RV.tmp rfl) RVs.nil))))) hle38 ⟨v0_4, vq39_10, cq39_10, rfl, rfl, h0_4, hq39_10⟩
 exact WT.no
 exact WT.no
 exact WT.no

noncomputable def f_client_next (a0 : T_api_Client) : Option T_api_Client :=
  (grd (a0.Voters ≠ 0) (some (⟨a0.Id, a0.Serial, a0.Voters, IntKind.i64.wrap ((a0.Node.tmod a0.Voters) + (1 : Int)), a0.Open, a0.Tries⟩ : T_api_Client)))
def f_client_next_post (a0 : T_api_Client) (v0_4 : Value) : T_api_Client → Value → IM → HL → Prop :=
  fun (r0 : T_api_Client) (v : Value) (M' : IM) (H' : HL) => ∃ vz0_4, (.agg #[(.int .i64 r0.Id), (.int .i64 r0.Serial), (.int .i64 r0.Voters), (.int .i64 r0.Node), vz0_4, (.int .i64 r0.Tries)]) = v ∧ H' = [] ∧ RS kd_api_Request M' vz0_4 r0.Open
set_option maxHeartbeats 8000000 in
set_option maxRecDepth 100000 in
theorem f_client_next_ok (a0 : T_api_Client) (M : IM) (v0_4 : Value) (h0_4 : RS kd_api_Request M v0_4 a0.Open) (res : T_api_Client) (h : f_client_next a0 = some res) :
    Tri Try.prog 24 #[(.agg #[(.int .i64 a0.Id), (.int .i64 a0.Serial), (.int .i64 a0.Voters), (.int .i64 a0.Node), v0_4, (.int .i64 a0.Tries)])] M [] (f_client_next_post a0 v0_4 res) := by
 unfold f_client_next at h
 refine Tri.enter (fn := Try.f24) Try.func24 rfl (Nat.le_of_ble_eq_true rfl) ?_
 intro F ρ hρ
 refine Sr ?_
 refine WL.eff (EO.box (cs := #[(.int .i64 a0.Id), (.int .i64 a0.Serial), (.int .i64 a0.Voters), (.int .i64 a0.Node), v0_4, (.int .i64 a0.Tries)]) (congrArg Value.cells (asE (.agg #[(.int .i64 a0.Id), (.int .i64 a0.Serial), (.int .i64 a0.Voters), (.int .i64 a0.Node), v0_4, (.int .i64 a0.Tries)]) (hρ 0)))) rfl ?_
 rintro _ _ _ - ⟨rfl, g21, rfl, rfl⟩
 refine WL.eff (EO.alloc ze24 rfl) rfl ?_
 rintro _ _ _ - ⟨rfl, g22, rfl, rfl⟩
 refine Ns ?_
 refine Pu (.pointer (some ⟨g21, 3, none⟩)) (PO.fieldAddr fo24_3 rfl rfl) rfl ?_
 refine Pu (.int .i64 a0.Node) (PO.loadB 1 pl3 rfl rfl rfl) rfl ?_
 refine Pu (.pointer (some ⟨g21, 2, none⟩)) (PO.fieldAddr fo24_2 rfl rfl) rfl ?_
 refine Pu (.int .i64 a0.Voters) (PO.loadB 1 pl3 rfl rfl rfl) rfl ?_
 obtain ⟨hg23, h⟩ := grd_i h
 refine Pu (.int .i64 (a0.Node.tmod a0.Voters)) (PO.rem rfl rfl hg23) rfl ?_
 refine Pu (.int .i64 (IntKind.i64.wrap ((a0.Node.tmod a0.Voters) + (1 : Int)))) (PO.add rfl rfl) rfl ?_
 refine Pu (.pointer (some ⟨g21, 3, none⟩)) (PO.fieldAddr fo24_3 rfl rfl) rfl ?_
 refine WL.f1 ?_
 refine WL.eff (EO.storeL (v := (.int .i64 (IntKind.i64.wrap ((a0.Node.tmod a0.Voters) + (1 : Int))))) (vl := [(.int .i64 (IntKind.i64.wrap ((a0.Node.tmod a0.Voters) + (1 : Int))))]) (arr' := [(.int .i64 a0.Id), (.int .i64 a0.Serial), (.int .i64 a0.Voters), (.int .i64 (IntKind.i64.wrap ((a0.Node.tmod a0.Voters) + (1 : Int)))), v0_4, (.int .i64 a0.Tries)]) rfl sz3 rfl rfl (onesOf (Ones.cons rfl Ones.nil)) rfl rfl rfl) rfl ?_
 rintro _ _ _ - ⟨rfl, rfl⟩
 refine Ns ?_
 refine Pu (.agg #[(.int .i64 a0.Id), (.int .i64 a0.Serial), (.int .i64 a0.Voters), (.int .i64 (IntKind.i64.wrap ((a0.Node.tmod a0.Voters) + (1 : Int)))), v0_4, (.int .i64 a0.Tries)]) (PO.loadBA (cs := [(.int .i64 a0.Id), (.int .i64 a0.Serial), (.int .i64 a0.Voters), (.int .i64 (IntKind.i64.wrap ((a0.Node.tmod a0.Voters) + (1 : Int)))), v0_4, (.int .i64 a0.Tries)]) 0 ag24 sz24 rfl rfl rfl) rfl ?_
 refine WL.f1 ?_
 refine WL.eff (EO.storeL (v := (.agg #[(.int .i64 a0.Id), (.int .i64 a0.Serial), (.int .i64 a0.Voters), (.int .i64 (IntKind.i64.wrap ((a0.Node.tmod a0.Voters) + (1 : Int)))), v0_4, (.int .i64 a0.Tries)])) (vl := [(.int .i64 a0.Id), (.int .i64 a0.Serial), (.int .i64 a0.Voters), (.int .i64 (IntKind.i64.wrap ((a0.Node.tmod a0.Voters) + (1 : Int)))), v0_4, (.int .i64 a0.Tries)]) (arr' := [(.int .i64 a0.Id), (.int .i64 a0.Serial), (.int .i64 a0.Voters), (.int .i64 (IntKind.i64.wrap ((a0.Node.tmod a0.Voters) + (1 : Int)))), v0_4, (.int .i64 a0.Tries)]) rfl sz24 rfl rfl (onesOf (Ones.cons rfl (Ones.cons rfl (Ones.cons rfl (Ones.cons rfl (Ones.cons (RS.one h0_4) (Ones.cons rfl Ones.nil))))))) rfl rfl rfl) rfl ?_
 rintro _ _ _ - ⟨rfl, rfl⟩
 refine Nt ?_
 refine WC.ret ?_
 refine WQ.f1 ?_
 refine WQ.drop ?_
 exact WQ.returnsD h [] (fun _ hs => hs.drop) (resultsL1 rfl (RV.cellA (cs := [(.int .i64 a0.Id), (.int .i64 a0.Serial), (.int .i64 a0.Voters), (.int .i64 (IntKind.i64.wrap ((a0.Node.tmod a0.Voters) + (1 : Int)))), v0_4, (.int .i64 a0.Tries)]) 0 ag24 sz24 rfl rfl rfl)) (IM.le.refl _) ⟨v0_4, rfl, rfl, h0_4⟩


end Go.Proofs.Ytdlilclopmhiaaa.G
