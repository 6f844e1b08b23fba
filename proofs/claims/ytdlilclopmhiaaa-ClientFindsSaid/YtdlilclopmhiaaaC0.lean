/- Go functions: what they come to, and that they do. Printed by a program of the session (gen). -/
import Derived.Test.YtdlilclopmhiaaaCF
set_option linter.unusedVariables false
set_option linter.unusedSimpArgs false
namespace Go.Proofs.Ytdlilclopmhiaaa.G
open Go Go.KK

noncomputable def f_ref20_Short (a0 : T_api_Request) : Option Bool :=
  (((if (decide ((a0.Name.size : Int) ≤ (300 : Int))) = true then (if (decide ((a0.Key.size : Int) ≤ (300 : Int))) = true then (if (decide ((a0.Value.size : Int) ≤ (400 : Int))) = true then (if (decide ((a0.Rack.size : Int) ≤ (300 : Int))) = true then (some (decide ((a0.Ids.length : Int) ≤ (60 : Int)))) else (some false)) else (some false)) else (some false)) else (some false)) : Option Bool).bind fun (x22 : Bool) => (some x22))
def f_ref20_Short_post (a0 : T_api_Request) (v0_10 : Value) : Bool → Value → IM → HL → Prop :=
  fun (r0 : Bool) (v : Value) (M' : IM) (H' : HL) => (.bool r0) = v ∧ H' = []
set_option maxHeartbeats 8000000 in
set_option maxRecDepth 100000 in
theorem f_ref20_Short_ok (a0 : T_api_Request) (M : IM) (v0_10 : Value) (h0_10 : RS (Kd.int .i64) M v0_10 a0.Ids) (res : Bool) (h : f_ref20_Short a0 = some res) :
    Tri Try.prog 7 #[(.agg #[(.int .i64 a0.Client), (.int .i64 a0.Serial), (.int .i64 a0.Kind), (.string a0.Name), (.string a0.Key), (.string a0.Value), (.bool a0.Flag), (.int .i64 a0.Parts), (.int .i64 a0.Replicas), (.int .i64 a0.Part), v0_10, (.int .i64 a0.Broker), (.int .i64 a0.Epoch), (.string a0.Rack), (.int .i64 a0.Word.Broker), (.int .i64 a0.Word.Epoch), (.int .i64 a0.Word.High), (.bool a0.Word.Fence), (.bool a0.Word.Leave)])] M [] (f_ref20_Short_post a0 v0_10 res) := by
 unfold f_ref20_Short at h
 refine Tri.enter (fn := Try.f7) Try.func7 rfl (Nat.le_of_ble_eq_true rfl) ?_
 intro F ρ hρ
 refine Sr ?_
 refine WL.eff (EO.box (cs := #[(.int .i64 a0.Client), (.int .i64 a0.Serial), (.int .i64 a0.Kind), (.string a0.Name), (.string a0.Key), (.string a0.Value), (.bool a0.Flag), (.int .i64 a0.Parts), (.int .i64 a0.Replicas), (.int .i64 a0.Part), v0_10, (.int .i64 a0.Broker), (.int .i64 a0.Epoch), (.string a0.Rack), (.int .i64 a0.Word.Broker), (.int .i64 a0.Word.Epoch), (.int .i64 a0.Word.High), (.bool a0.Word.Fence), (.bool a0.Word.Leave)]) (congrArg Value.cells (asE (.agg #[(.int .i64 a0.Client), (.int .i64 a0.Serial), (.int .i64 a0.Kind), (.string a0.Name), (.string a0.Key), (.string a0.Value), (.bool a0.Flag), (.int .i64 a0.Parts), (.int .i64 a0.Replicas), (.int .i64 a0.Part), v0_10, (.int .i64 a0.Broker), (.int .i64 a0.Epoch), (.string a0.Rack), (.int .i64 a0.Word.Broker), (.int .i64 a0.Word.Epoch), (.int .i64 a0.Word.High), (.bool a0.Word.Fence), (.bool a0.Word.Leave)]) (hρ 0)))) rfl ?_
 rintro _ _ _ - ⟨rfl, g21, rfl, rfl⟩
 refine Pa (.bool false) rfl rfl ?_
 refine Nt ?_
 obtain ⟨x22, hj23, h⟩ := bnd h
 refine WC.joinF (fun (x22 : Bool) ρ' M' H' => M.le M' ∧ [(g21, .cells #[(.int .i64 a0.Client), (.int .i64 a0.Serial), (.int .i64 a0.Kind), (.string a0.Name), (.string a0.Key), (.string a0.Value), (.bool a0.Flag), (.int .i64 a0.Parts), (.int .i64 a0.Replicas), (.int .i64 a0.Part), v0_10, (.int .i64 a0.Broker), (.int .i64 a0.Epoch), (.string a0.Rack), (.int .i64 a0.Word.Broker), (.int .i64 a0.Word.Epoch), (.int .i64 a0.Word.High), (.bool a0.Word.Fence), (.bool a0.Word.Leave)] 29 (0, 0))] :: F = H' ∧ ρ' 2 = (.bool x22)) x22 ?_ ?_
 have h323 := h
 have h := hj23
 refine WC.region ?_
 refine Pu (.pointer (some ⟨g21, 3, none⟩)) (PO.fieldAddr fo29_3 rfl rfl) rfl ?_
 refine Pu (.string a0.Name) (PO.loadB 0 pl9 rfl rfl rfl) rfl ?_
 refine Pu (.int .i64 (a0.Name.size : Int)) (PO.lenStr Try.underlying9 rfl) rfl ?_
 refine Pu (.bool (decide ((a0.Name.size : Int) ≤ (300 : Int)))) (PO.leq rfl rfl) rfl ?_
 refine Pm (.bool (decide ((a0.Name.size : Int) ≤ (300 : Int)))) rfl rfl ?_
 rcases Bool.eq_false_or_eq_true (decide ((a0.Name.size : Int) ≤ (300 : Int))) with hb24 | hb24
 have h := ite_t hb24 h
 refine On 7 rfl rfl hb24 ?_
 refine Pu (.pointer (some ⟨g21, 4, none⟩)) (PO.fieldAddr fo29_4 rfl rfl) rfl ?_
 refine On 7 rfl rfl hb24 ?_
 refine Pu (.string a0.Key) (PO.loadB 0 pl9 rfl rfl rfl) rfl ?_
 refine On 7 rfl rfl hb24 ?_
 refine Pu (.int .i64 (a0.Key.size : Int)) (PO.lenStr Try.underlying9 rfl) rfl ?_
 refine On 7 rfl rfl hb24 ?_
 refine Pu (.bool (decide ((a0.Key.size : Int) ≤ (300 : Int)))) (PO.leq rfl rfl) rfl ?_
 refine Pu (.bool (decide ((a0.Key.size : Int) ≤ (300 : Int)))) (PO.pickT rfl hb24 rfl) rfl ?_
 refine Pm (.bool (decide ((a0.Key.size : Int) ≤ (300 : Int)))) rfl rfl ?_
 rcases Bool.eq_false_or_eq_true (decide ((a0.Key.size : Int) ≤ (300 : Int))) with hb25 | hb25
 have h := ite_t hb25 h
 refine On 13 rfl rfl hb25 ?_
 refine Pu (.pointer (some ⟨g21, 5, none⟩)) (PO.fieldAddr fo29_5 rfl rfl) rfl ?_
 refine On 13 rfl rfl hb25 ?_
 refine Pu (.string a0.Value) (PO.loadB 0 pl9 rfl rfl rfl) rfl ?_
 refine On 13 rfl rfl hb25 ?_
 refine Pu (.int .i64 (a0.Value.size : Int)) (PO.lenStr Try.underlying9 rfl) rfl ?_
 refine On 13 rfl rfl hb25 ?_
 refine Pu (.bool (decide ((a0.Value.size : Int) ≤ (400 : Int)))) (PO.leq rfl rfl) rfl ?_
 refine Pu (.bool (decide ((a0.Value.size : Int) ≤ (400 : Int)))) (PO.pickT rfl hb25 rfl) rfl ?_
 refine Pm (.bool (decide ((a0.Value.size : Int) ≤ (400 : Int)))) rfl rfl ?_
 rcases Bool.eq_false_or_eq_true (decide ((a0.Value.size : Int) ≤ (400 : Int))) with hb26 | hb26
 have h := ite_t hb26 h
 refine On 19 rfl rfl hb26 ?_
 refine Pu (.pointer (some ⟨g21, 13, none⟩)) (PO.fieldAddr fo29_13 rfl rfl) rfl ?_
 refine On 19 rfl rfl hb26 ?_
 refine Pu (.string a0.Rack) (PO.loadB 0 pl9 rfl rfl rfl) rfl ?_
 refine On 19 rfl rfl hb26 ?_
 refine Pu (.int .i64 (a0.Rack.size : Int)) (PO.lenStr Try.underlying9 rfl) rfl ?_
 refine On 19 rfl rfl hb26 ?_
 refine Pu (.bool (decide ((a0.Rack.size : Int) ≤ (300 : Int)))) (PO.leq rfl rfl) rfl ?_
 refine Pu (.bool (decide ((a0.Rack.size : Int) ≤ (300 : Int)))) (PO.pickT rfl hb26 rfl) rfl ?_
 refine Pm (.bool (decide ((a0.Rack.size : Int) ≤ (300 : Int)))) rfl rfl ?_
 rcases Bool.eq_false_or_eq_true (decide ((a0.Rack.size : Int) ≤ (300 : Int))) with hb27 | hb27
 have h := ite_t hb27 h
 refine On 25 rfl rfl hb27 ?_
 refine Pu (.pointer (some ⟨g21, 10, none⟩)) (PO.fieldAddr fo29_10 rfl rfl) rfl ?_
 refine On 25 rfl rfl hb27 ?_
 refine Pu v0_10 (PO.loadB 0 pl25 rfl rfl rfl) rfl ?_
 refine On 25 rfl rfl hb27 ?_
 refine Pu (.int .i64 (a0.Ids.length : Int)) (PO.lenS Try.underlying25 rfl h0_10.len) rfl ?_
 refine On 25 rfl rfl hb27 ?_
 refine Pu (.bool (decide ((a0.Ids.length : Int) ≤ (60 : Int)))) (PO.leq rfl rfl) rfl ?_
 refine Pu (.bool (decide ((a0.Ids.length : Int) ≤ (60 : Int)))) (PO.pickT rfl hb27 rfl) rfl ?_
 refine Pa (.bool (decide ((a0.Ids.length : Int) ≤ (60 : Int)))) rfl rfl ?_
 refine WL.nil ?_
 obtain rfl := Option.some.inj h
 refine WQ.thenJ ?_
 exact ⟨(IM.le.refl _), rfl, rfl⟩
 have h := ite_f hb27 h
 iterate 4 refine Of 25 rfl rfl hb27 rfl ?_
 refine Pu (.bool false) (PO.pickF rfl hb27 rfl) rfl ?_
 refine Pa (.bool false) rfl rfl ?_
 refine WL.nil ?_
 obtain rfl := Option.some.inj h
 refine WQ.thenJ ?_
 exact ⟨(IM.le.refl _), rfl, rfl⟩
 have h := ite_f hb26 h
 iterate 4 refine Of 19 rfl rfl hb26 rfl ?_
 refine Pu (.bool false) (PO.pickF rfl hb26 rfl) rfl ?_
 refine Pm (.bool false) rfl rfl ?_
 iterate 4 refine Of 25 rfl rfl rfl rfl ?_
 refine Pu (.bool false) (PO.pickF rfl rfl rfl) rfl ?_
 refine Pa (.bool false) rfl rfl ?_
 refine WL.nil ?_
 obtain rfl := Option.some.inj h
 refine WQ.thenJ ?_
 exact ⟨(IM.le.refl _), rfl, rfl⟩
 have h := ite_f hb25 h
 iterate 4 refine Of 13 rfl rfl hb25 rfl ?_
 refine Pu (.bool false) (PO.pickF rfl hb25 rfl) rfl ?_
 refine Pm (.bool false) rfl rfl ?_
 iterate 4 refine Of 19 rfl rfl rfl rfl ?_
 refine Pu (.bool false) (PO.pickF rfl rfl rfl) rfl ?_
 refine Pm (.bool false) rfl rfl ?_
 iterate 4 refine Of 25 rfl rfl rfl rfl ?_
 refine Pu (.bool false) (PO.pickF rfl rfl rfl) rfl ?_
 refine Pa (.bool false) rfl rfl ?_
 refine WL.nil ?_
 obtain rfl := Option.some.inj h
 refine WQ.thenJ ?_
 exact ⟨(IM.le.refl _), rfl, rfl⟩
 have h := ite_f hb24 h
 iterate 4 refine Of 7 rfl rfl hb24 rfl ?_
 refine Pu (.bool false) (PO.pickF rfl hb24 rfl) rfl ?_
 refine Pm (.bool false) rfl rfl ?_
 iterate 4 refine Of 13 rfl rfl rfl rfl ?_
 refine Pu (.bool false) (PO.pickF rfl rfl rfl) rfl ?_
 refine Pm (.bool false) rfl rfl ?_
 iterate 4 refine Of 19 rfl rfl rfl rfl ?_
 refine Pu (.bool false) (PO.pickF rfl rfl rfl) rfl ?_
 refine Pm (.bool false) rfl rfl ?_
 iterate 4 refine Of 25 rfl rfl rfl rfl ?_
 refine Pu (.bool false) (PO.pickF rfl rfl rfl) rfl ?_
 refine Pa (.bool false) rfl rfl ?_
 refine WL.nil ?_
 obtain rfl := Option.some.inj h
 refine WQ.thenJ ?_
 exact ⟨(IM.le.refl _), rfl, rfl⟩
 rintro ρ23 M23 H23 ⟨hle23, rfl, hs23_2⟩
 have h0_10 := h0_10.mono hle23
 refine WC.ret ?_
 refine WQ.drop ?_
 exact WQ.returnsF h [] rfl (results1 rfl hs23_2) hle23 ⟨rfl, rfl⟩

noncomputable def f_law28_light_l0 (a0 : T_api_Client) (s_ : Int) : Option (Int ⊕ (Unit ⊕ Unit)) :=
  match s_ with
  | x25 =>
    (if (decide (x25 < (a0.Open.length : Int))) = true then (grd (0 ≤ x25 ∧ x25 < a0.Open.length) ((f_ref20_Short (⟨(rd a0.Open x25).Client, (rd a0.Open x25).Serial, (rd a0.Open x25).Kind, (rd a0.Open x25).Name, (rd a0.Open x25).Key, (rd a0.Open x25).Value, (rd a0.Open x25).Flag, (rd a0.Open x25).Parts, (rd a0.Open x25).Replicas, (rd a0.Open x25).Part, (rd a0.Open x25).Ids, (rd a0.Open x25).Broker, (rd a0.Open x25).Epoch, (rd a0.Open x25).Rack, ((rd a0.Open x25).Word)⟩ : T_api_Request)).bind fun (r34 : Bool) => (if (!r34) = true then (some (Sum.inr (Sum.inr ()))) else (some (Sum.inl (IntKind.i64.wrap (x25 + (1 : Int)))))))) else (some (Sum.inr (Sum.inl ()))))
noncomputable def f_law28_light (a0 : T_api_Client) : Option Bool :=
  (if (decide ((3 : Int) < (a0.Open.length : Int))) = true then (some false) else ((((iter (f_law28_light_l0 a0) (0 : Int)).bind (Sum.elim (fun _ => (some (Sum.inl ()))) (fun _ => (((some false)).bind fun r => some (Sum.inr r))))) : Option (Unit ⊕ Bool)).bind (Sum.elim (fun _ => (some true)) some)))
def f_law28_light_post (a0 : T_api_Client) (v0_4 : Value) : Bool → Value → IM → HL → Prop :=
  fun (r0 : Bool) (v : Value) (M' : IM) (H' : HL) => (.bool r0) = v ∧ H' = []
set_option maxHeartbeats 8000000 in
set_option maxRecDepth 100000 in
theorem f_law28_light_ok (a0 : T_api_Client) (M : IM) (v0_4 : Value) (h0_4 : RS kd_api_Request M v0_4 a0.Open) (res : Bool) (h : f_law28_light a0 = some res) :
    Tri Try.prog 6 #[(.agg #[(.int .i64 a0.Id), (.int .i64 a0.Serial), (.int .i64 a0.Voters), (.int .i64 a0.Node), v0_4, (.int .i64 a0.Tries)])] M [] (f_law28_light_post a0 v0_4 res) := by
 unfold f_law28_light at h
 refine Tri.enter (fn := Try.f6) Try.func6 rfl (Nat.le_of_ble_eq_true rfl) ?_
 intro F ρ hρ
 refine Sr ?_
 refine WL.eff (EO.box (cs := #[(.int .i64 a0.Id), (.int .i64 a0.Serial), (.int .i64 a0.Voters), (.int .i64 a0.Node), v0_4, (.int .i64 a0.Tries)]) (congrArg Value.cells (asE (.agg #[(.int .i64 a0.Id), (.int .i64 a0.Serial), (.int .i64 a0.Voters), (.int .i64 a0.Node), v0_4, (.int .i64 a0.Tries)]) (hρ 0)))) rfl ?_
 rintro _ _ _ - ⟨rfl, g21, rfl, rfl⟩
 refine Pa (.bool false) rfl rfl ?_
 refine Nt ?_
 refine WC.seq ?_
 refine Sr ?_
 refine Pu (.pointer (some ⟨g21, 4, none⟩)) (PO.fieldAddr fo24_4 rfl rfl) rfl ?_
 refine Pu v0_4 (PO.loadB 0 pl22 rfl rfl rfl) rfl ?_
 refine Pu (.int .i64 (a0.Open.length : Int)) (PO.lenS Try.underlying22 rfl h0_4.len) rfl ?_
 refine Pu (.bool (decide ((3 : Int) < (a0.Open.length : Int)))) (PO.gtr rfl rfl) rfl ?_
 refine Nt ?_
 refine WC.cond (b := decide ((3 : Int) < (a0.Open.length : Int))) rfl (fun hb22 => ?_) (fun hb22 => ?_)
 have h := ite_t hb22 h
 refine Sr ?_
 refine Pa (.bool false) rfl rfl ?_
 refine Nt ?_
 refine WC.ret ?_
 refine WQ.thenR ?_
 refine WQ.drop ?_
 exact WQ.returnsF h [] rfl (results1 rfl rfl) (IM.le.refl _) ⟨rfl, rfl⟩
 have h := ite_f hb22 h
 refine WC.skip ?_
 refine WQ.thenC ?_
 obtain ⟨j23, hj23, h⟩ := bnd h
 refine WC.joinE (fun (_ : Unit) ρ' M' H' => M.le M' ∧ [(g21, .cells #[(.int .i64 a0.Id), (.int .i64 a0.Serial), (.int .i64 a0.Voters), (.int .i64 a0.Node), v0_4, (.int .i64 a0.Tries)] 24 (0, 0))] :: F = H') j23 ?_ ?_
 have h323 := h
 have h := hj23
 refine Sr ?_
 refine Pa (.int .i64 (0 : Int)) rfl rfl ?_
 refine Nt ?_
 refine WC.block ?_
 obtain ⟨e24, he24, hK24⟩ := bnd h
 clear h
 refine WC.loop he24 (fun (x25 : Int) ρ' M' H' => M.le M' ∧ [(g21, .cells #[(.int .i64 a0.Id), (.int .i64 a0.Serial), (.int .i64 a0.Voters), (.int .i64 a0.Node), v0_4, (.int .i64 a0.Tries)] 24 (0, 0))] :: F = H' ∧ ρ' 1 = (.pointer (some ⟨g21, 0, none⟩)) ∧ ρ' 3 = (.int .i64 x25)) ?_ ?_
 exact ⟨(IM.le.refl _), rfl, rfl, rfl⟩
 rintro x25 o24 ρ24 M24 H24 h ⟨hle24, rfl, hs24_1, hs24_3⟩
 unfold f_law28_light_l0 at h
 have h0_4 := h0_4.mono hle24
 refine WC.seq ?_
 refine Sr ?_
 refine Pm (.int .i64 x25) hs24_3 rfl ?_
 refine Pu (.pointer (some ⟨g21, 4, none⟩)) (PO.fieldAddr fo24_4 hs24_1 rfl) rfl ?_
 refine Pu v0_4 (PO.loadB 0 pl22 rfl rfl rfl) rfl ?_
 refine Pu (.int .i64 (a0.Open.length : Int)) (PO.lenS Try.underlying22 rfl h0_4.len) rfl ?_
 refine Pu (.bool (decide (x25 < (a0.Open.length : Int)))) (PO.lss rfl rfl) rfl ?_
 refine Nt ?_
 refine WC.cond (b := decide (x25 < (a0.Open.length : Int))) rfl (fun hb26 => ?_) (fun hb26 => ?_)
 have h := ite_t hb26 h
 refine WC.skip ?_
 refine WQ.thenC ?_
 refine WC.seq ?_
 refine WC.block ?_
 refine Sr ?_
 refine Pu (.pointer (some ⟨g21, 4, none⟩)) (PO.fieldAddr fo24_4 hs24_1 rfl) rfl ?_
 refine Pu v0_4 (PO.loadB 0 pl22 rfl rfl rfl) rfl ?_
 refine Pm (.int .i64 x25) hs24_3 rfl ?_
 obtain ⟨hg27, h⟩ := grd_i h
 obtain ⟨p28, cs29, hat30, hrc31, hhas32⟩ := h0_4.at hg27.1 hg27.2 (by decide)
 obtain ⟨vw33_10, rfl, hw33_10⟩ := kd_api_Request_open hrc31
 refine Pu (.pointer (some p28)) (PO.indexAddr (n := a0.Open.length) Try.underlying22 sz29 rfl rfl hg27.1 hg27.2 hat30) rfl ?_
 refine Pu (.agg #[(.int .i64 ((rd a0.Open x25).Client)), (.int .i64 ((rd a0.Open x25).Serial)), (.int .i64 ((rd a0.Open x25).Kind)), (.string ((rd a0.Open x25).Name)), (.string ((rd a0.Open x25).Key)), (.string ((rd a0.Open x25).Value)), (.bool ((rd a0.Open x25).Flag)), (.int .i64 ((rd a0.Open x25).Parts)), (.int .i64 ((rd a0.Open x25).Replicas)), (.int .i64 ((rd a0.Open x25).Part)), vw33_10, (.int .i64 ((rd a0.Open x25).Broker)), (.int .i64 ((rd a0.Open x25).Epoch)), (.string ((rd a0.Open x25).Rack)), (.int .i64 (((rd a0.Open x25).Word).Broker)), (.int .i64 (((rd a0.Open x25).Word).Epoch)), (.int .i64 (((rd a0.Open x25).Word).High)), (.bool (((rd a0.Open x25).Word).Fence)), (.bool (((rd a0.Open x25).Word).Leave))]) (PO.loadMA (cs := [(.int .i64 ((rd a0.Open x25).Client)), (.int .i64 ((rd a0.Open x25).Serial)), (.int .i64 ((rd a0.Open x25).Kind)), (.string ((rd a0.Open x25).Name)), (.string ((rd a0.Open x25).Key)), (.string ((rd a0.Open x25).Value)), (.bool ((rd a0.Open x25).Flag)), (.int .i64 ((rd a0.Open x25).Parts)), (.int .i64 ((rd a0.Open x25).Replicas)), (.int .i64 ((rd a0.Open x25).Part)), vw33_10, (.int .i64 ((rd a0.Open x25).Broker)), (.int .i64 ((rd a0.Open x25).Epoch)), (.string ((rd a0.Open x25).Rack)), (.int .i64 (((rd a0.Open x25).Word).Broker)), (.int .i64 (((rd a0.Open x25).Word).Epoch)), (.int .i64 (((rd a0.Open x25).Word).High)), (.bool (((rd a0.Open x25).Word).Fence)), (.bool (((rd a0.Open x25).Word).Leave))]) ag29 sz29 rfl hhas32) rfl ?_
 obtain ⟨r34, hr35, h⟩ := bnd h
 refine WL.eff (EO.call0 co7 (f_ref20_Short_ok (⟨(rd a0.Open x25).Client, (rd a0.Open x25).Serial, (rd a0.Open x25).Kind, (rd a0.Open x25).Name, (rd a0.Open x25).Key, (rd a0.Open x25).Value, (rd a0.Open x25).Flag, (rd a0.Open x25).Parts, (rd a0.Open x25).Replicas, (rd a0.Open x25).Part, (rd a0.Open x25).Ids, (rd a0.Open x25).Broker, (rd a0.Open x25).Epoch, (rd a0.Open x25).Rack, ((rd a0.Open x25).Word)⟩ : T_api_Request) _ _ hw33_10 r34 hr35) (args1 rfl)) rfl ?_
 rintro _ M36 _ hle37 ⟨_, ⟨rfl, rfl⟩, rfl⟩
 have h0_4 := h0_4.mono hle37
 have hhas32 := hhas32.mono hle37
 have hw33_10 := hw33_10.mono hle37
 refine WL.a0 ?_
 refine Pu (.bool (!r34)) (PO.not rfl) rfl ?_
 refine Nt ?_
 refine WC.cond (b := !r34) rfl (fun hb39 => ?_) (fun hb39 => ?_)
 have h := ite_t hb39 h
 refine Sr ?_
 refine Pa (.bool false) rfl rfl ?_
 refine Nt ?_
 refine WC.ret ?_
 refine WQ.blockR ?_
 refine WQ.thenR ?_
 refine WQ.leaveR (Sum.inr ()) (Option.some.inj h).symm (fun heq24 => ?_)
 subst heq24
 have h := (elimR hK24)
 refine WQ.blockR ?_
 refine WQ.thenR ?_
 have h := KK.early h h323
 refine WQ.drop ?_
 exact WQ.returnsF h [] rfl (results1 rfl rfl) (hle24.trans hle37) ⟨rfl, rfl⟩
 have h := ite_f hb39 h
 refine WC.skip ?_
 refine WQ.blockN ?_
 refine WQ.thenC ?_
 refine WC.region ?_
 refine Pm (.int .i64 x25) hs24_3 rfl ?_
 refine Pu (.int .i64 (IntKind.i64.wrap (x25 + (1 : Int)))) (PO.add rfl rfl) rfl ?_
 refine Pa (.int .i64 (IntKind.i64.wrap (x25 + (1 : Int)))) rfl rfl ?_
 refine WL.nil ?_
 refine WQ.again (IntKind.i64.wrap (x25 + (1 : Int))) (Option.some.inj h).symm ?_
 exact ⟨(hle24.trans hle37), rfl, hs24_1, rfl⟩
 have h := ite_f hb26 h
 refine WC.exit ?_
 refine WQ.thenE ?_
 refine WQ.leaveE (Sum.inl ()) (Option.some.inj h).symm (fun heq24 => ?_)
 subst heq24
 have h := elimL hK24
 refine WQ.blockH ?_
 refine WQ.thenFE h ?_
 exact ⟨hle24, rfl⟩
 rintro _ ρ23 M23 H23 rfl ⟨hle23, rfl⟩
 have h0_4 := h0_4.mono hle23
 refine Sr ?_
 refine Pa (.bool true) rfl rfl ?_
 refine Nt ?_
 refine WC.ret ?_
 refine WQ.drop ?_
 exact WQ.returnsF h [] rfl (results1 rfl rfl) hle23 ⟨rfl, rfl⟩

noncomputable def f_ref28_New (a0 : Int) (a1 : Int) : Option (T_api_Client × Int) :=
  (((if (decide (a0 < (1 : Int))) = true then (some true) else (if (decide ((1073741824 : Int) < a0)) = true then (some true) else (if (decide (a1 < (1 : Int))) = true then (some true) else (some (decide ((7 : Int) < a1)))))) : Option Bool).bind fun (x22 : Bool) => (if x22 = true then (some ((⟨(0 : Int), (0 : Int), (0 : Int), (0 : Int), [], (0 : Int)⟩ : T_api_Client), (2 : Int))) else (some ((⟨a0, (0 : Int), a1, (1 : Int), [], (0 : Int)⟩ : T_api_Client), (0 : Int)))))
def f_ref28_New_post (a0 : Int) (a1 : Int) : (T_api_Client × Int) → Value → IM → HL → Prop :=
  fun (p_ : (T_api_Client × Int)) (v : Value) (M' : IM) (H' : HL) => match p_ with | (r0, r1) => ∃ vz0_4 cz0_4, (.tuple #[(.agg #[(.int .i64 r0.Id), (.int .i64 r0.Serial), (.int .i64 r0.Voters), (.int .i64 r0.Node), vz0_4, (.int .i64 r0.Tries)]), (.int .i64 r1)]) = v ∧ H' = [cz0_4] ∧ OwnS kd_api_Request M' vz0_4 r0.Open cz0_4
set_option maxHeartbeats 8000000 in
set_option maxRecDepth 100000 in
theorem f_ref28_New_ok (a0 : Int) (a1 : Int) (M : IM) (res : (T_api_Client × Int)) (h : f_ref28_New a0 a1 = some res) :
    Tri Try.prog 16 #[(.int .i64 a0), (.int .i64 a1)] M [] (f_ref28_New_post a0 a1 res) := by
 unfold f_ref28_New at h
 refine Tri.enter (fn := Try.f16) Try.func16 rfl (Nat.le_of_ble_eq_true rfl) ?_
 intro F ρ hρ
 refine Sr ?_
 refine WL.eff (EO.alloc ze24 rfl) rfl ?_
 rintro _ _ _ - ⟨rfl, g21, rfl, rfl⟩
 refine Pa (.int .i64 (0 : Int)) rfl rfl ?_
 refine Nt ?_
 refine WC.seq ?_
 obtain ⟨x22, hj23, h⟩ := bnd h
 refine WC.joinF (fun (x22 : Bool) ρ' M' H' => M.le M' ∧ [(g21, .cells #[(.int .i64 (0 : Int)), (.int .i64 (0 : Int)), (.int .i64 (0 : Int)), (.int .i64 (0 : Int)), (.slice none 0 0), (.int .i64 (0 : Int))] 24 (0, 0))] :: F = H' ∧ ρ' 0 = (.int .i64 a0) ∧ ρ' 1 = (.int .i64 a1) ∧ ρ' 4 = (.pointer (some ⟨g21, 0, none⟩)) ∧ ρ' 19 = (.bool x22)) x22 ?_ ?_
 have h323 := h
 have h := hj23
 refine WC.region ?_
 refine Pm (.int .i64 a0) (hρ 0) rfl ?_
 refine Pu (.bool (decide (a0 < (1 : Int)))) (PO.lss rfl rfl) rfl ?_
 refine Pm (.bool (decide (a0 < (1 : Int)))) rfl rfl ?_
 rcases Bool.eq_false_or_eq_true (decide (a0 < (1 : Int))) with hb24 | hb24
 have h := ite_t hb24 h
 iterate 2 refine Of 8 rfl rfl hb24 rfl ?_
 refine Pu (.bool true) (PO.pickT rfl hb24 rfl) rfl ?_
 refine Pm (.bool true) rfl rfl ?_
 iterate 2 refine Of 12 rfl rfl rfl rfl ?_
 refine Pu (.bool true) (PO.pickT rfl rfl rfl) rfl ?_
 refine Pm (.bool true) rfl rfl ?_
 iterate 2 refine Of 16 rfl rfl rfl rfl ?_
 refine Pu (.bool true) (PO.pickT rfl rfl rfl) rfl ?_
 refine WL.nil ?_
 obtain rfl := Option.some.inj h
 refine WQ.thenJ ?_
 exact ⟨(IM.le.refl _), rfl, (hρ 0), (hρ 1), rfl, rfl⟩
 have h := ite_f hb24 h
 refine On 8 rfl rfl hb24 ?_
 refine Pm (.int .i64 a0) (hρ 0) rfl ?_
 refine On 8 rfl rfl hb24 ?_
 refine Pu (.bool (decide ((1073741824 : Int) < a0))) (PO.gtr rfl rfl) rfl ?_
 refine Pu (.bool (decide ((1073741824 : Int) < a0))) (PO.pickF rfl hb24 rfl) rfl ?_
 refine Pm (.bool (decide ((1073741824 : Int) < a0))) rfl rfl ?_
 rcases Bool.eq_false_or_eq_true (decide ((1073741824 : Int) < a0)) with hb25 | hb25
 have h := ite_t hb25 h
 iterate 2 refine Of 12 rfl rfl hb25 rfl ?_
 refine Pu (.bool true) (PO.pickT rfl hb25 rfl) rfl ?_
 refine Pm (.bool true) rfl rfl ?_
 iterate 2 refine Of 16 rfl rfl rfl rfl ?_
 refine Pu (.bool true) (PO.pickT rfl rfl rfl) rfl ?_
 refine WL.nil ?_
 obtain rfl := Option.some.inj h
 refine WQ.thenJ ?_
 exact ⟨(IM.le.refl _), rfl, (hρ 0), (hρ 1), rfl, rfl⟩
 have h := ite_f hb25 h
 refine On 12 rfl rfl hb25 ?_
 refine Pm (.int .i64 a1) (hρ 1) rfl ?_
 refine On 12 rfl rfl hb25 ?_
 refine Pu (.bool (decide (a1 < (1 : Int)))) (PO.lss rfl rfl) rfl ?_
 refine Pu (.bool (decide (a1 < (1 : Int)))) (PO.pickF rfl hb25 rfl) rfl ?_
 refine Pm (.bool (decide (a1 < (1 : Int)))) rfl rfl ?_
 rcases Bool.eq_false_or_eq_true (decide (a1 < (1 : Int))) with hb26 | hb26
 have h := ite_t hb26 h
 iterate 2 refine Of 16 rfl rfl hb26 rfl ?_
 refine Pu (.bool true) (PO.pickT rfl hb26 rfl) rfl ?_
 refine WL.nil ?_
 obtain rfl := Option.some.inj h
 refine WQ.thenJ ?_
 exact ⟨(IM.le.refl _), rfl, (hρ 0), (hρ 1), rfl, rfl⟩
 have h := ite_f hb26 h
 refine On 16 rfl rfl hb26 ?_
 refine Pm (.int .i64 a1) (hρ 1) rfl ?_
 refine On 16 rfl rfl hb26 ?_
 refine Pu (.bool (decide ((7 : Int) < a1))) (PO.gtr rfl rfl) rfl ?_
 refine Pu (.bool (decide ((7 : Int) < a1))) (PO.pickF rfl hb26 rfl) rfl ?_
 refine WL.nil ?_
 obtain rfl := Option.some.inj h
 refine WQ.thenJ ?_
 exact ⟨(IM.le.refl _), rfl, (hρ 0), (hρ 1), rfl, rfl⟩
 rintro ρ23 M23 H23 ⟨hle23, rfl, hs23_0, hs23_1, hs23_4, hs23_19⟩
 refine WC.cond (b := x22) hs23_19 (fun hb27 => ?_) (fun hb27 => ?_)
 have h := ite_t hb27 h
 refine Sr ?_
 refine Pu (.agg #[(.int .i64 (0 : Int)), (.int .i64 (0 : Int)), (.int .i64 (0 : Int)), (.int .i64 (0 : Int)), (.slice none 0 0), (.int .i64 (0 : Int))]) (PO.buildL (cl := [(.int .i64 (0 : Int)), (.int .i64 (0 : Int)), (.int .i64 (0 : Int)), (.int .i64 (0 : Int)), (.slice none 0 0), (.int .i64 (0 : Int))]) ze24 fp24 Parts.nil rfl) rfl ?_
 refine WL.eff (EO.storeL (v := (.agg #[(.int .i64 (0 : Int)), (.int .i64 (0 : Int)), (.int .i64 (0 : Int)), (.int .i64 (0 : Int)), (.slice none 0 0), (.int .i64 (0 : Int))])) (vl := [(.int .i64 (0 : Int)), (.int .i64 (0 : Int)), (.int .i64 (0 : Int)), (.int .i64 (0 : Int)), (.slice none 0 0), (.int .i64 (0 : Int))]) (arr' := [(.int .i64 (0 : Int)), (.int .i64 (0 : Int)), (.int .i64 (0 : Int)), (.int .i64 (0 : Int)), (.slice none 0 0), (.int .i64 (0 : Int))]) rfl sz24 hs23_4 rfl (onesOf (Ones.cons rfl (Ones.cons rfl (Ones.cons rfl (Ones.cons rfl (Ones.cons rfl (Ones.cons rfl Ones.nil))))))) rfl rfl rfl) rfl ?_
 rintro _ _ _ - ⟨rfl, rfl⟩
 refine Pa (.int .i64 (2 : Int)) rfl rfl ?_
 refine Nt ?_
 refine WC.ret ?_
 refine WQ.thenR ?_
 refine WQ.e0 ?_
 refine WQ.f1 ?_
 exact WQ.returnsD h [[]] (fun _ hs => hs.drop) (resultsLN rfl (RVs.cons (RV.cellA (cs := [(.int .i64 (0 : Int)), (.int .i64 (0 : Int)), (.int .i64 (0 : Int)), (.int .i64 (0 : Int)), (.slice none 0 0), (.int .i64 (0 : Int))]) 0 ag24 sz24 hs23_4 rfl rfl) (RVs.cons (RV.tmp rfl) RVs.nil))) hle23 ⟨(.slice none 0 0), [], rfl, rfl, (OwnS.nil _ _)⟩
 have h := ite_f hb27 h
 refine WC.skip ?_
 refine WQ.thenC ?_
 refine Sr ?_
 refine Pm (.int .i64 a0) hs23_0 rfl ?_
 refine Pm (.int .i64 a1) hs23_1 rfl ?_
 refine Pu (.agg #[(.int .i64 a0), (.int .i64 (0 : Int)), (.int .i64 a1), (.int .i64 (1 : Int)), (.slice none 0 0), (.int .i64 (0 : Int))]) (PO.buildL (cl := [(.int .i64 a0), (.int .i64 (0 : Int)), (.int .i64 a1), (.int .i64 (1 : Int)), (.slice none 0 0), (.int .i64 (0 : Int))]) ze24 fp24 (Parts.cons (congrArg Value.cells (show ev _ _ = (.int .i64 a0) from rfl)) (Parts.cons (congrArg Value.cells (show ev _ _ = (.int .i64 a1) from rfl)) (Parts.cons (congrArg Value.cells (show ev _ _ = (.int .i64 (1 : Int)) from rfl)) Parts.nil))) rfl) rfl ?_
 refine WL.eff (EO.storeL (v := (.agg #[(.int .i64 a0), (.int .i64 (0 : Int)), (.int .i64 a1), (.int .i64 (1 : Int)), (.slice none 0 0), (.int .i64 (0 : Int))])) (vl := [(.int .i64 a0), (.int .i64 (0 : Int)), (.int .i64 a1), (.int .i64 (1 : Int)), (.slice none 0 0), (.int .i64 (0 : Int))]) (arr' := [(.int .i64 a0), (.int .i64 (0 : Int)), (.int .i64 a1), (.int .i64 (1 : Int)), (.slice none 0 0), (.int .i64 (0 : Int))]) rfl sz24 hs23_4 rfl (onesOf (Ones.cons rfl (Ones.cons rfl (Ones.cons rfl (Ones.cons rfl (Ones.cons rfl (Ones.cons rfl Ones.nil))))))) rfl rfl rfl) rfl ?_
 rintro _ _ _ - ⟨rfl, rfl⟩
 refine Pa (.int .i64 (0 : Int)) rfl rfl ?_
 refine Nt ?_
 refine WC.ret ?_
 refine WQ.e0 ?_
 refine WQ.f1 ?_
 exact WQ.returnsD h [[]] (fun _ hs => hs.drop) (resultsLN rfl (RVs.cons (RV.cellA (cs := [(.int .i64 a0), (.int .i64 (0 : Int)), (.int .i64 a1), (.int .i64 (1 : Int)), (.slice none 0 0), (.int .i64 (0 : Int))]) 0 ag24 sz24 hs23_4 rfl rfl) (RVs.cons (RV.tmp rfl) RVs.nil))) hle23 ⟨(.slice none 0 0), [], rfl, rfl, (OwnS.nil _ _)⟩

noncomputable def f_ref22_letters (a0 : Int) : Option ByteArray :=
  (if (decide (a0 = (1 : Int))) = true then (some (⟨#[110, 113, 114]⟩ : ByteArray)) else (if (decide (a0 = (2 : Int))) = true then (some (⟨#[110]⟩ : ByteArray)) else (if (decide (a0 = (3 : Int))) = true then (some (⟨#[110, 113]⟩ : ByteArray)) else (if (decide (a0 = (4 : Int))) = true then (some (⟨#[110, 107]⟩ : ByteArray)) else (if (decide (a0 = (5 : Int))) = true then (some (⟨#[110, 112, 105]⟩ : ByteArray)) else (((if (decide (a0 = (6 : Int))) = true then (some (decide (a0 = (6 : Int)))) else (some (decide (a0 = (7 : Int))))) : Option Bool).bind fun (x26 : Bool) => (if x26 = true then (some (⟨#[110, 112]⟩ : ByteArray)) else (if (decide (a0 = (8 : Int))) = true then (some (⟨#[98]⟩ : ByteArray)) else (if (decide (a0 = (9 : Int))) = true then (some (⟨#[98, 101, 99]⟩ : ByteArray)) else (if (decide (a0 = (10 : Int))) = true then (some (⟨#[119]⟩ : ByteArray)) else (if (decide (a0 = (11 : Int))) = true then (some (⟨#[110, 112, 105, 98, 101]⟩ : ByteArray)) else (some (⟨#[]⟩ : ByteArray)))))))))))))
def f_ref22_letters_post (a0 : Int) : ByteArray → Value → IM → HL → Prop :=
  fun (r0 : ByteArray) (v : Value) (M' : IM) (H' : HL) => (.string r0) = v ∧ H' = []
set_option maxHeartbeats 8000000 in
set_option maxRecDepth 100000 in
theorem f_ref22_letters_ok (a0 : Int) (M : IM) (res : ByteArray) (h : f_ref22_letters a0 = some res) :
    Tri Try.prog 25 #[(.int .i64 a0)] M [] (f_ref22_letters_post a0 res) := by
 unfold f_ref22_letters at h
 refine Tri.enter (fn := Try.f25) Try.func25 rfl (Nat.le_of_ble_eq_true rfl) ?_
 intro F ρ hρ
 refine Sr ?_
 refine Pa (.string (⟨#[]⟩ : ByteArray)) rfl rfl ?_
 refine Nt ?_
 refine WC.seq ?_
 refine Sr ?_
 refine Pm (.int .i64 a0) (hρ 0) rfl ?_
 refine Nt ?_
 refine WC.block ?_
 refine Sr ?_
 refine Pu (.bool (decide (a0 = (1 : Int)))) (PO.eql rfl rfl) rfl ?_
 refine Pa (.bool (decide (a0 = (1 : Int)))) rfl rfl ?_
 refine Nt ?_
 refine WC.cond (b := decide (a0 = (1 : Int))) rfl (fun hb21 => ?_) (fun hb21 => ?_)
 have h := ite_t hb21 h
 refine Sr ?_
 refine Pa (.string (⟨#[110, 113, 114]⟩ : ByteArray)) rfl rfl ?_
 refine Nt ?_
 refine WC.ret ?_
 refine WQ.blockR ?_
 refine WQ.thenR ?_
 exact WQ.returnsF h [] rfl (results1 rfl rfl) (IM.le.refl _) ⟨rfl, rfl⟩
 have h := ite_f hb21 h
 refine Sr ?_
 refine Pu (.bool (decide (a0 = (2 : Int)))) (PO.eql rfl rfl) rfl ?_
 refine Pa (.bool (decide (a0 = (2 : Int)))) rfl rfl ?_
 refine Nt ?_
 refine WC.cond (b := decide (a0 = (2 : Int))) rfl (fun hb22 => ?_) (fun hb22 => ?_)
 have h := ite_t hb22 h
 refine Sr ?_
 refine Pa (.string (⟨#[110]⟩ : ByteArray)) rfl rfl ?_
 refine Nt ?_
 refine WC.ret ?_
 refine WQ.blockR ?_
 refine WQ.thenR ?_
 exact WQ.returnsF h [] rfl (results1 rfl rfl) (IM.le.refl _) ⟨rfl, rfl⟩
 have h := ite_f hb22 h
 refine Sr ?_
 refine Pu (.bool (decide (a0 = (3 : Int)))) (PO.eql rfl rfl) rfl ?_
 refine Pa (.bool (decide (a0 = (3 : Int)))) rfl rfl ?_
 refine Nt ?_
 refine WC.cond (b := decide (a0 = (3 : Int))) rfl (fun hb23 => ?_) (fun hb23 => ?_)
 have h := ite_t hb23 h
 refine Sr ?_
 refine Pa (.string (⟨#[110, 113]⟩ : ByteArray)) rfl rfl ?_
 refine Nt ?_
 refine WC.ret ?_
 refine WQ.blockR ?_
 refine WQ.thenR ?_
 exact WQ.returnsF h [] rfl (results1 rfl rfl) (IM.le.refl _) ⟨rfl, rfl⟩
 have h := ite_f hb23 h
 refine Sr ?_
 refine Pu (.bool (decide (a0 = (4 : Int)))) (PO.eql rfl rfl) rfl ?_
 refine Pa (.bool (decide (a0 = (4 : Int)))) rfl rfl ?_
 refine Nt ?_
 refine WC.cond (b := decide (a0 = (4 : Int))) rfl (fun hb24 => ?_) (fun hb24 => ?_)
 have h := ite_t hb24 h
 refine Sr ?_
 refine Pa (.string (⟨#[110, 107]⟩ : ByteArray)) rfl rfl ?_
 refine Nt ?_
 refine WC.ret ?_
 refine WQ.blockR ?_
 refine WQ.thenR ?_
 exact WQ.returnsF h [] rfl (results1 rfl rfl) (IM.le.refl _) ⟨rfl, rfl⟩
 have h := ite_f hb24 h
 refine Sr ?_
 refine Pu (.bool (decide (a0 = (5 : Int)))) (PO.eql rfl rfl) rfl ?_
 refine Pa (.bool (decide (a0 = (5 : Int)))) rfl rfl ?_
 refine Nt ?_
 refine WC.cond (b := decide (a0 = (5 : Int))) rfl (fun hb25 => ?_) (fun hb25 => ?_)
 have h := ite_t hb25 h
 refine Sr ?_
 refine Pa (.string (⟨#[110, 112, 105]⟩ : ByteArray)) rfl rfl ?_
 refine Nt ?_
 refine WC.ret ?_
 refine WQ.blockR ?_
 refine WQ.thenR ?_
 exact WQ.returnsF h [] rfl (results1 rfl rfl) (IM.le.refl _) ⟨rfl, rfl⟩
 have h := ite_f hb25 h
 obtain ⟨x26, hj27, h⟩ := bnd h
 refine WC.joinF (fun (x26 : Bool) ρ' M' H' => M.le M' ∧ F = H' ∧ ρ' 3 = (.int .i64 a0) ∧ ρ' 14 = (.bool x26)) x26 ?_ ?_
 have h327 := h
 have h := hj27
 refine Sr ?_
 refine Pu (.bool (decide (a0 = (6 : Int)))) (PO.eql rfl rfl) rfl ?_
 refine Pa (.bool (decide (a0 = (6 : Int)))) rfl rfl ?_
 refine Nt ?_
 refine WC.cond (b := decide (a0 = (6 : Int))) rfl (fun hb28 => ?_) (fun hb28 => ?_)
 have h := ite_t hb28 h
 refine WC.skip ?_
 obtain rfl := Option.some.inj h
 refine WQ.thenJ ?_
 exact ⟨(IM.le.refl _), rfl, rfl, rfl⟩
 have h := ite_f hb28 h
 refine WC.region ?_
 refine Pu (.bool (decide (a0 = (7 : Int)))) (PO.eql rfl rfl) rfl ?_
 refine Pa (.bool (decide (a0 = (7 : Int)))) rfl rfl ?_
 refine WL.nil ?_
 obtain rfl := Option.some.inj h
 refine WQ.thenJ ?_
 exact ⟨(IM.le.refl _), rfl, rfl, rfl⟩
 rintro ρ27 M27 H27 ⟨hle27, rfl, hs27_3, hs27_14⟩
 refine WC.cond (b := x26) hs27_14 (fun hb29 => ?_) (fun hb29 => ?_)
 have h := ite_t hb29 h
 refine Sr ?_
 refine Pa (.string (⟨#[110, 112]⟩ : ByteArray)) rfl rfl ?_
 refine Nt ?_
 refine WC.ret ?_
 refine WQ.blockR ?_
 refine WQ.thenR ?_
 exact WQ.returnsF h [] rfl (results1 rfl rfl) hle27 ⟨rfl, rfl⟩
 have h := ite_f hb29 h
 refine Sr ?_
 refine Pu (.bool (decide (a0 = (8 : Int)))) (PO.eql hs27_3 rfl) rfl ?_
 refine Pa (.bool (decide (a0 = (8 : Int)))) rfl rfl ?_
 refine Nt ?_
 refine WC.cond (b := decide (a0 = (8 : Int))) rfl (fun hb30 => ?_) (fun hb30 => ?_)
 have h := ite_t hb30 h
 refine Sr ?_
 refine Pa (.string (⟨#[98]⟩ : ByteArray)) rfl rfl ?_
 refine Nt ?_
 refine WC.ret ?_
 refine WQ.blockR ?_
 refine WQ.thenR ?_
 exact WQ.returnsF h [] rfl (results1 rfl rfl) hle27 ⟨rfl, rfl⟩
 have h := ite_f hb30 h
 refine Sr ?_
 refine Pu (.bool (decide (a0 = (9 : Int)))) (PO.eql hs27_3 rfl) rfl ?_
 refine Pa (.bool (decide (a0 = (9 : Int)))) rfl rfl ?_
 refine Nt ?_
 refine WC.cond (b := decide (a0 = (9 : Int))) rfl (fun hb31 => ?_) (fun hb31 => ?_)
 have h := ite_t hb31 h
 refine Sr ?_
 refine Pa (.string (⟨#[98, 101, 99]⟩ : ByteArray)) rfl rfl ?_
 refine Nt ?_
 refine WC.ret ?_
 refine WQ.blockR ?_
 refine WQ.thenR ?_
 exact WQ.returnsF h [] rfl (results1 rfl rfl) hle27 ⟨rfl, rfl⟩
 have h := ite_f hb31 h
 refine Sr ?_
 refine Pu (.bool (decide (a0 = (10 : Int)))) (PO.eql hs27_3 rfl) rfl ?_
 refine Pa (.bool (decide (a0 = (10 : Int)))) rfl rfl ?_
 refine Nt ?_
 refine WC.cond (b := decide (a0 = (10 : Int))) rfl (fun hb32 => ?_) (fun hb32 => ?_)
 have h := ite_t hb32 h
 refine Sr ?_
 refine Pa (.string (⟨#[119]⟩ : ByteArray)) rfl rfl ?_
 refine Nt ?_
 refine WC.ret ?_
 refine WQ.blockR ?_
 refine WQ.thenR ?_
 exact WQ.returnsF h [] rfl (results1 rfl rfl) hle27 ⟨rfl, rfl⟩
 have h := ite_f hb32 h
 refine Sr ?_
 refine Pu (.bool (decide (a0 = (11 : Int)))) (PO.eql hs27_3 rfl) rfl ?_
 refine Pa (.bool (decide (a0 = (11 : Int)))) rfl rfl ?_
 refine Nt ?_
 refine WC.cond (b := decide (a0 = (11 : Int))) rfl (fun hb33 => ?_) (fun hb33 => ?_)
 have h := ite_t hb33 h
 refine Sr ?_
 refine Pa (.string (⟨#[110, 112, 105, 98, 101]⟩ : ByteArray)) rfl rfl ?_
 refine Nt ?_
 refine WC.ret ?_
 refine WQ.blockR ?_
 refine WQ.thenR ?_
 exact WQ.returnsF h [] rfl (results1 rfl rfl) hle27 ⟨rfl, rfl⟩
 have h := ite_f hb33 h
 refine WC.skip ?_
 refine WQ.blockN ?_
 refine WQ.thenC ?_
 refine Sr ?_
 refine Pa (.string (⟨#[]⟩ : ByteArray)) rfl rfl ?_
 refine Nt ?_
 refine WC.ret ?_
 exact WQ.returnsF h [] rfl (results1 rfl rfl) hle27 ⟨rfl, rfl⟩

noncomputable def f_ref22_has_l0 (a1 : Int) (r21 : ByteArray) (s_ : Int) : Option (Int ⊕ (Unit ⊕ Unit)) :=
  match s_ with
  | x28 =>
    (if (decide (x28 < (r21.size : Int))) = true then (grd (0 ≤ x28 ∧ x28 < r21.size) (if (decide ((btAt r21 x28) = a1)) = true then (some (Sum.inr (Sum.inr ()))) else (some (Sum.inl (IntKind.i64.wrap (x28 + (1 : Int))))))) else (some (Sum.inr (Sum.inl ()))))
noncomputable def f_ref22_has (a0 : Int) (a1 : Int) : Option Bool :=
  ((f_ref22_letters a0).bind fun (r21 : ByteArray) => ((((iter (f_ref22_has_l0 a1 r21) (0 : Int)).bind (Sum.elim (fun _ => (some (Sum.inl ()))) (fun _ => (((some true)).bind fun r => some (Sum.inr r))))) : Option (Unit ⊕ Bool)).bind (Sum.elim (fun _ => (some false)) some)))
def f_ref22_has_post (a0 : Int) (a1 : Int) : Bool → Value → IM → HL → Prop :=
  fun (r0 : Bool) (v : Value) (M' : IM) (H' : HL) => (.bool r0) = v ∧ H' = []
set_option maxHeartbeats 8000000 in
set_option maxRecDepth 100000 in
theorem f_ref22_has_ok (a0 : Int) (a1 : Int) (M : IM) (res : Bool) (h : f_ref22_has a0 a1 = some res) :
    Tri Try.prog 27 #[(.int .i64 a0), (.int .u8 a1)] M [] (f_ref22_has_post a0 a1 res) := by
 unfold f_ref22_has at h
 refine Tri.enter (fn := Try.f27) Try.func27 rfl (Nat.le_of_ble_eq_true rfl) ?_
 intro F ρ hρ
 refine Sr ?_
 refine Pa (.bool false) rfl rfl ?_
 refine Ns ?_
 refine Pm (.int .i64 a0) (hρ 0) rfl ?_
 obtain ⟨r21, hr22, h⟩ := bnd h
 refine WL.eff (EO.call0 co25 (f_ref22_letters_ok a0 _ r21 hr22) (args1 rfl)) rfl ?_
 rintro _ M23 _ hle24 ⟨_, ⟨rfl, rfl⟩, rfl⟩
 refine WL.a0 ?_
 refine Pa (.string r21) rfl rfl ?_
 refine Nt ?_
 obtain ⟨j26, hj26, h⟩ := bnd h
 refine WC.joinE (fun (_ : Unit) ρ' M' H' => M23.le M' ∧ F = H') j26 ?_ ?_
 have h326 := h
 have h := hj26
 refine Sr ?_
 refine Pa (.int .i64 (0 : Int)) rfl rfl ?_
 refine Nt ?_
 refine WC.block ?_
 obtain ⟨e27, he27, hK27⟩ := bnd h
 clear h
 refine WC.loop he27 (fun (x28 : Int) ρ' M' H' => M23.le M' ∧ F = H' ∧ ρ' 1 = (.int .u8 a1) ∧ ρ' 5 = (.string r21) ∧ ρ' 6 = (.int .i64 x28)) ?_ ?_
 exact ⟨(IM.le.refl _), rfl, (hρ 1), rfl, rfl⟩
 rintro x28 o27 ρ27 M27 H27 h ⟨hle27, rfl, hs27_1, hs27_5, hs27_6⟩
 unfold f_ref22_has_l0 at h
 refine WC.seq ?_
 refine Sr ?_
 refine Pm (.int .i64 x28) hs27_6 rfl ?_
 refine Pm (.string r21) hs27_5 rfl ?_
 refine Pu (.int .i64 (r21.size : Int)) (PO.lenStr Try.underlying9 rfl) rfl ?_
 refine Pu (.bool (decide (x28 < (r21.size : Int)))) (PO.lss rfl rfl) rfl ?_
 refine Nt ?_
 refine WC.cond (b := decide (x28 < (r21.size : Int))) rfl (fun hb29 => ?_) (fun hb29 => ?_)
 have h := ite_t hb29 h
 refine WC.skip ?_
 refine WQ.thenC ?_
 refine WC.seq ?_
 refine WC.block ?_
 refine Sr ?_
 refine Pm (.string r21) hs27_5 rfl ?_
 refine Pm (.int .i64 x28) hs27_6 rfl ?_
 obtain ⟨hg30, h⟩ := grd_i h
 refine Pu (.int .u8 (btAt r21 x28)) (PO.indexStr Try.underlying9 rfl rfl hg30.1 (strAt hg30)) rfl ?_
 refine Pm (.int .u8 a1) hs27_1 rfl ?_
 refine Pu (.bool (decide ((btAt r21 x28) = a1))) (PO.eql rfl rfl) rfl ?_
 refine Nt ?_
 refine WC.cond (b := decide ((btAt r21 x28) = a1)) rfl (fun hb32 => ?_) (fun hb32 => ?_)
 have h := ite_t hb32 h
 refine Sr ?_
 refine Pa (.bool true) rfl rfl ?_
 refine Nt ?_
 refine WC.ret ?_
 refine WQ.blockR ?_
 refine WQ.thenR ?_
 refine WQ.leaveR (Sum.inr ()) (Option.some.inj h).symm (fun heq27 => ?_)
 subst heq27
 have h := (elimR hK27)
 refine WQ.blockR ?_
 refine WQ.thenR ?_
 have h := KK.early h h326
 exact WQ.returnsF h [] rfl (results1 rfl rfl) (hle24.trans hle27) ⟨rfl, rfl⟩
 have h := ite_f hb32 h
 refine WC.skip ?_
 refine WQ.blockN ?_
 refine WQ.thenC ?_
 refine WC.region ?_
 refine Pm (.int .i64 x28) hs27_6 rfl ?_
 refine Pu (.int .i64 (IntKind.i64.wrap (x28 + (1 : Int)))) (PO.add rfl rfl) rfl ?_
 refine Pa (.int .i64 (IntKind.i64.wrap (x28 + (1 : Int)))) rfl rfl ?_
 refine WL.nil ?_
 refine WQ.again (IntKind.i64.wrap (x28 + (1 : Int))) (Option.some.inj h).symm ?_
 exact ⟨hle27, rfl, hs27_1, hs27_5, rfl⟩
 have h := ite_f hb29 h
 refine WC.exit ?_
 refine WQ.thenE ?_
 refine WQ.leaveE (Sum.inl ()) (Option.some.inj h).symm (fun heq27 => ?_)
 subst heq27
 have h := elimL hK27
 refine WQ.blockH ?_
 refine WQ.thenFE h ?_
 exact ⟨hle27, rfl⟩
 rintro _ ρ26 M26 H26 rfl ⟨hle26, rfl⟩
 refine Sr ?_
 refine Pa (.bool false) rfl rfl ?_
 refine Nt ?_
 refine WC.ret ?_
 exact WQ.returnsF h [] rfl (results1 rfl rfl) (hle24.trans hle26) ⟨rfl, rfl⟩

noncomputable def f_ref22_txt (a0 : ByteArray) (a1 : Bool) (a2 : Int) : Option Bool :=
  (if a1 = true then (some (decide ((a0.size : Int) ≤ a2))) else (some (decide (a0 = (⟨#[]⟩ : ByteArray)))))
def f_ref22_txt_post (a0 : ByteArray) (a1 : Bool) (a2 : Int) : Bool → Value → IM → HL → Prop :=
  fun (r0 : Bool) (v : Value) (M' : IM) (H' : HL) => (.bool r0) = v ∧ H' = []
set_option maxHeartbeats 8000000 in
set_option maxRecDepth 100000 in
theorem f_ref22_txt_ok (a0 : ByteArray) (a1 : Bool) (a2 : Int) (M : IM) (res : Bool) (h : f_ref22_txt a0 a1 a2 = some res) :
    Tri Try.prog 26 #[(.string a0), (.bool a1), (.int .i64 a2)] M [] (f_ref22_txt_post a0 a1 a2 res) := by
 unfold f_ref22_txt at h
 refine Tri.enter (fn := Try.f26) Try.func26 rfl (Nat.le_of_ble_eq_true rfl) ?_
 intro F ρ hρ
 refine Sr ?_
 refine Pa (.bool false) rfl rfl ?_
 refine Nt ?_
 refine WC.seq ?_
 refine Sr ?_
 refine Pm (.bool a1) (hρ 1) rfl ?_
 refine Nt ?_
 refine WC.cond (b := a1) rfl (fun hb21 => ?_) (fun hb21 => ?_)
 have h := ite_t hb21 h
 refine Sr ?_
 refine Pm (.string a0) (hρ 0) rfl ?_
 refine Pu (.int .i64 (a0.size : Int)) (PO.lenStr Try.underlying9 rfl) rfl ?_
 refine Pm (.int .i64 a2) (hρ 2) rfl ?_
 refine Pu (.bool (decide ((a0.size : Int) ≤ a2))) (PO.leq rfl rfl) rfl ?_
 refine Pa (.bool (decide ((a0.size : Int) ≤ a2))) rfl rfl ?_
 refine Nt ?_
 refine WC.ret ?_
 refine WQ.thenR ?_
 exact WQ.returnsF h [] rfl (results1 rfl rfl) (IM.le.refl _) ⟨rfl, rfl⟩
 have h := ite_f hb21 h
 refine WC.skip ?_
 refine WQ.thenC ?_
 refine Sr ?_
 refine Pm (.string a0) (hρ 0) rfl ?_
 refine Pu (.bool (decide (a0 = (⟨#[]⟩ : ByteArray)))) (PO.seql rfl rfl) rfl ?_
 refine Pa (.bool (decide (a0 = (⟨#[]⟩ : ByteArray)))) rfl rfl ?_
 refine Nt ?_
 refine WC.ret ?_
 exact WQ.returnsF h [] rfl (results1 rfl rfl) (IM.le.refl _) ⟨rfl, rfl⟩

noncomputable def f_ref22_num (a0 : Int) (a1 : Bool) (a2 : Int) : Option Bool :=
  (if a1 = true then (((if (decide ((0 : Int) ≤ a0)) = true then (some (decide (a0 ≤ a2))) else (some false)) : Option Bool).bind fun (x22 : Bool) => (some x22)) else (some (decide (a0 = (0 : Int)))))
def f_ref22_num_post (a0 : Int) (a1 : Bool) (a2 : Int) : Bool → Value → IM → HL → Prop :=
  fun (r0 : Bool) (v : Value) (M' : IM) (H' : HL) => (.bool r0) = v ∧ H' = []
set_option maxHeartbeats 8000000 in
set_option maxRecDepth 100000 in
theorem f_ref22_num_ok (a0 : Int) (a1 : Bool) (a2 : Int) (M : IM) (res : Bool) (h : f_ref22_num a0 a1 a2 = some res) :
    Tri Try.prog 28 #[(.int .i64 a0), (.bool a1), (.int .i64 a2)] M [] (f_ref22_num_post a0 a1 a2 res) := by
 unfold f_ref22_num at h
 refine Tri.enter (fn := Try.f28) Try.func28 rfl (Nat.le_of_ble_eq_true rfl) ?_
 intro F ρ hρ
 refine Sr ?_
 refine Pa (.bool false) rfl rfl ?_
 refine Nt ?_
 refine WC.seq ?_
 refine Sr ?_
 refine Pm (.bool a1) (hρ 1) rfl ?_
 refine Nt ?_
 refine WC.cond (b := a1) rfl (fun hb21 => ?_) (fun hb21 => ?_)
 have h := ite_t hb21 h
 obtain ⟨x22, hj23, h⟩ := bnd h
 refine WC.joinF (fun (x22 : Bool) ρ' M' H' => M.le M' ∧ F = H' ∧ ρ' 6 = (.bool x22)) x22 ?_ ?_
 have h323 := h
 have h := hj23
 refine WC.region ?_
 refine Pm (.int .i64 a0) (hρ 0) rfl ?_
 refine Pu (.bool (decide ((0 : Int) ≤ a0))) (PO.geq rfl rfl) rfl ?_
 refine Pm (.bool (decide ((0 : Int) ≤ a0))) rfl rfl ?_
 rcases Bool.eq_false_or_eq_true (decide ((0 : Int) ≤ a0)) with hb24 | hb24
 have h := ite_t hb24 h
 refine On 10 rfl rfl hb24 ?_
 refine Pm (.int .i64 a0) (hρ 0) rfl ?_
 refine On 10 rfl rfl hb24 ?_
 refine Pm (.int .i64 a2) (hρ 2) rfl ?_
 refine On 10 rfl rfl hb24 ?_
 refine Pu (.bool (decide (a0 ≤ a2))) (PO.leq rfl rfl) rfl ?_
 refine Pu (.bool (decide (a0 ≤ a2))) (PO.pickT rfl hb24 rfl) rfl ?_
 refine Pa (.bool (decide (a0 ≤ a2))) rfl rfl ?_
 refine WL.nil ?_
 obtain rfl := Option.some.inj h
 refine WQ.thenJ ?_
 exact ⟨(IM.le.refl _), rfl, rfl⟩
 have h := ite_f hb24 h
 iterate 3 refine Of 10 rfl rfl hb24 rfl ?_
 refine Pu (.bool false) (PO.pickF rfl hb24 rfl) rfl ?_
 refine Pa (.bool false) rfl rfl ?_
 refine WL.nil ?_
 obtain rfl := Option.some.inj h
 refine WQ.thenJ ?_
 exact ⟨(IM.le.refl _), rfl, rfl⟩
 rintro ρ23 M23 H23 ⟨hle23, rfl, hs23_6⟩
 refine WC.ret ?_
 refine WQ.thenR ?_
 exact WQ.returnsF h [] rfl (results1 rfl hs23_6) hle23 ⟨rfl, rfl⟩
 have h := ite_f hb21 h
 refine WC.skip ?_
 refine WQ.thenC ?_
 refine Sr ?_
 refine Pm (.int .i64 a0) (hρ 0) rfl ?_
 refine Pu (.bool (decide (a0 = (0 : Int)))) (PO.eql rfl rfl) rfl ?_
 refine Pa (.bool (decide (a0 = (0 : Int)))) rfl rfl ?_
 refine Nt ?_
 refine WC.ret ?_
 exact WQ.returnsF h [] rfl (results1 rfl rfl) (IM.le.refl _) ⟨rfl, rfl⟩

noncomputable def f_ref22_said (a0 : T_api_Word) (a1 : Bool) : Option Bool :=
  (if (!a1) = true then (((if (decide (a0.Broker = (0 : Int))) = true then (if (decide (a0.Epoch = (0 : Int))) = true then (if (decide (a0.High = (0 : Int))) = true then (if (!a0.Fence) = true then (some (!a0.Leave)) else (some false)) else (some false)) else (some false)) else (some false)) : Option Bool).bind fun (x23 : Bool) => (some x23)) else (((if (decide ((1 : Int) ≤ a0.Broker)) = true then ((f_ref22_num a0.Broker true (64 : Int)).bind fun (r32 : Bool) => (if r32 = true then ((f_ref22_num a0.Epoch true (1073741824 : Int)).bind fun (r38 : Bool) => (if r38 = true then ((f_ref22_num a0.High true (1073741824 : Int)).bind fun (r44 : Bool) => (some r44)) else (some false))) else (some false))) else (some false)) : Option Bool).bind fun (x29 : Bool) => (some x29)))
def f_ref22_said_post (a0 : T_api_Word) (a1 : Bool) : Bool → Value → IM → HL → Prop :=
  fun (r0 : Bool) (v : Value) (M' : IM) (H' : HL) => (.bool r0) = v ∧ H' = []
set_option maxHeartbeats 8000000 in
set_option maxRecDepth 100000 in
theorem f_ref22_said_ok (a0 : T_api_Word) (a1 : Bool) (M : IM) (res : Bool) (h : f_ref22_said a0 a1 = some res) :
    Tri Try.prog 29 #[(.agg #[(.int .i64 a0.Broker), (.int .i64 a0.Epoch), (.int .i64 a0.High), (.bool a0.Fence), (.bool a0.Leave)]), (.bool a1)] M [] (f_ref22_said_post a0 a1 res) := by
 unfold f_ref22_said at h
 refine Tri.enter (fn := Try.f29) Try.func29 rfl (Nat.le_of_ble_eq_true rfl) ?_
 intro F ρ hρ
 refine Sr ?_
 refine WL.eff (EO.box (cs := #[(.int .i64 a0.Broker), (.int .i64 a0.Epoch), (.int .i64 a0.High), (.bool a0.Fence), (.bool a0.Leave)]) (congrArg Value.cells (asE (.agg #[(.int .i64 a0.Broker), (.int .i64 a0.Epoch), (.int .i64 a0.High), (.bool a0.Fence), (.bool a0.Leave)]) (hρ 0)))) rfl ?_
 rintro _ _ _ - ⟨rfl, g21, rfl, rfl⟩
 refine Pa (.bool false) rfl rfl ?_
 refine Nt ?_
 refine WC.seq ?_
 refine Sr ?_
 refine Pm (.bool a1) (hρ 1) rfl ?_
 refine Pu (.bool (!a1)) (PO.not rfl) rfl ?_
 refine Nt ?_
 refine WC.cond (b := !a1) rfl (fun hb22 => ?_) (fun hb22 => ?_)
 have h := ite_t hb22 h
 obtain ⟨x23, hj24, h⟩ := bnd h
 refine WC.joinF (fun (x23 : Bool) ρ' M' H' => M.le M' ∧ [(g21, .cells #[(.int .i64 a0.Broker), (.int .i64 a0.Epoch), (.int .i64 a0.High), (.bool a0.Fence), (.bool a0.Leave)] 27 (0, 0))] :: F = H' ∧ ρ' 4 = (.bool x23)) x23 ?_ ?_
 have h324 := h
 have h := hj24
 refine WC.region ?_
 refine Pu (.pointer (some ⟨g21, 0, none⟩)) (PO.fieldAddr fo27_0 rfl rfl) rfl ?_
 refine Pu (.int .i64 a0.Broker) (PO.loadB 0 pl3 rfl rfl rfl) rfl ?_
 refine Pu (.bool (decide (a0.Broker = (0 : Int)))) (PO.eql rfl rfl) rfl ?_
 refine Pm (.bool (decide (a0.Broker = (0 : Int)))) rfl rfl ?_
 rcases Bool.eq_false_or_eq_true (decide (a0.Broker = (0 : Int))) with hb25 | hb25
 have h := ite_t hb25 h
 refine On 10 rfl rfl hb25 ?_
 refine Pu (.pointer (some ⟨g21, 1, none⟩)) (PO.fieldAddr fo27_1 rfl rfl) rfl ?_
 refine On 10 rfl rfl hb25 ?_
 refine Pu (.int .i64 a0.Epoch) (PO.loadB 0 pl3 rfl rfl rfl) rfl ?_
 refine On 10 rfl rfl hb25 ?_
 refine Pu (.bool (decide (a0.Epoch = (0 : Int)))) (PO.eql rfl rfl) rfl ?_
 refine Pu (.bool (decide (a0.Epoch = (0 : Int)))) (PO.pickT rfl hb25 rfl) rfl ?_
 refine Pm (.bool (decide (a0.Epoch = (0 : Int)))) rfl rfl ?_
 rcases Bool.eq_false_or_eq_true (decide (a0.Epoch = (0 : Int))) with hb26 | hb26
 have h := ite_t hb26 h
 refine On 15 rfl rfl hb26 ?_
 refine Pu (.pointer (some ⟨g21, 2, none⟩)) (PO.fieldAddr fo27_2 rfl rfl) rfl ?_
 refine On 15 rfl rfl hb26 ?_
 refine Pu (.int .i64 a0.High) (PO.loadB 0 pl3 rfl rfl rfl) rfl ?_
 refine On 15 rfl rfl hb26 ?_
 refine Pu (.bool (decide (a0.High = (0 : Int)))) (PO.eql rfl rfl) rfl ?_
 refine Pu (.bool (decide (a0.High = (0 : Int)))) (PO.pickT rfl hb26 rfl) rfl ?_
 refine Pm (.bool (decide (a0.High = (0 : Int)))) rfl rfl ?_
 rcases Bool.eq_false_or_eq_true (decide (a0.High = (0 : Int))) with hb27 | hb27
 have h := ite_t hb27 h
 refine On 20 rfl rfl hb27 ?_
 refine Pu (.pointer (some ⟨g21, 3, none⟩)) (PO.fieldAddr fo27_3 rfl rfl) rfl ?_
 refine On 20 rfl rfl hb27 ?_
 refine Pu (.bool a0.Fence) (PO.loadB 0 pl4 rfl rfl rfl) rfl ?_
 refine On 20 rfl rfl hb27 ?_
 refine Pu (.bool (!a0.Fence)) (PO.not rfl) rfl ?_
 refine Pu (.bool (!a0.Fence)) (PO.pickT rfl hb27 rfl) rfl ?_
 refine Pm (.bool (!a0.Fence)) rfl rfl ?_
 rcases Bool.eq_false_or_eq_true (!a0.Fence) with hb28 | hb28
 have h := ite_t hb28 h
 refine On 25 rfl rfl hb28 ?_
 refine Pu (.pointer (some ⟨g21, 4, none⟩)) (PO.fieldAddr fo27_4 rfl rfl) rfl ?_
 refine On 25 rfl rfl hb28 ?_
 refine Pu (.bool a0.Leave) (PO.loadB 0 pl4 rfl rfl rfl) rfl ?_
 refine On 25 rfl rfl hb28 ?_
 refine Pu (.bool (!a0.Leave)) (PO.not rfl) rfl ?_
 refine Pu (.bool (!a0.Leave)) (PO.pickT rfl hb28 rfl) rfl ?_
 refine Pa (.bool (!a0.Leave)) rfl rfl ?_
 refine WL.nil ?_
 obtain rfl := Option.some.inj h
 refine WQ.thenJ ?_
 exact ⟨(IM.le.refl _), rfl, rfl⟩
 have h := ite_f hb28 h
 iterate 3 refine Of 25 rfl rfl hb28 rfl ?_
 refine Pu (.bool false) (PO.pickF rfl hb28 rfl) rfl ?_
 refine Pa (.bool false) rfl rfl ?_
 refine WL.nil ?_
 obtain rfl := Option.some.inj h
 refine WQ.thenJ ?_
 exact ⟨(IM.le.refl _), rfl, rfl⟩
 have h := ite_f hb27 h
 iterate 3 refine Of 20 rfl rfl hb27 rfl ?_
 refine Pu (.bool false) (PO.pickF rfl hb27 rfl) rfl ?_
 refine Pm (.bool false) rfl rfl ?_
 iterate 3 refine Of 25 rfl rfl rfl rfl ?_
 refine Pu (.bool false) (PO.pickF rfl rfl rfl) rfl ?_
 refine Pa (.bool false) rfl rfl ?_
 refine WL.nil ?_
 obtain rfl := Option.some.inj h
 refine WQ.thenJ ?_
 exact ⟨(IM.le.refl _), rfl, rfl⟩
 have h := ite_f hb26 h
 iterate 3 refine Of 15 rfl rfl hb26 rfl ?_
 refine Pu (.bool false) (PO.pickF rfl hb26 rfl) rfl ?_
 refine Pm (.bool false) rfl rfl ?_
 iterate 3 refine Of 20 rfl rfl rfl rfl ?_
 refine Pu (.bool false) (PO.pickF rfl rfl rfl) rfl ?_
 refine Pm (.bool false) rfl rfl ?_
 iterate 3 refine Of 25 rfl rfl rfl rfl ?_
 refine Pu (.bool false) (PO.pickF rfl rfl rfl) rfl ?_
 refine Pa (.bool false) rfl rfl ?_
 refine WL.nil ?_
 obtain rfl := Option.some.inj h
 refine WQ.thenJ ?_
 exact ⟨(IM.le.refl _), rfl, rfl⟩
 have h := ite_f hb25 h
 iterate 3 refine Of 10 rfl rfl hb25 rfl ?_
 refine Pu (.bool false) (PO.pickF rfl hb25 rfl) rfl ?_
 refine Pm (.bool false) rfl rfl ?_
 iterate 3 refine Of 15 rfl rfl rfl rfl ?_
 refine Pu (.bool false) (PO.pickF rfl rfl rfl) rfl ?_
 refine Pm (.bool false) rfl rfl ?_
 iterate 3 refine Of 20 rfl rfl rfl rfl ?_
 refine Pu (.bool false) (PO.pickF rfl rfl rfl) rfl ?_
 refine Pm (.bool false) rfl rfl ?_
 iterate 3 refine Of 25 rfl rfl rfl rfl ?_
 refine Pu (.bool false) (PO.pickF rfl rfl rfl) rfl ?_
 refine Pa (.bool false) rfl rfl ?_
 refine WL.nil ?_
 obtain rfl := Option.some.inj h
 refine WQ.thenJ ?_
 exact ⟨(IM.le.refl _), rfl, rfl⟩
 rintro ρ24 M24 H24 ⟨hle24, rfl, hs24_4⟩
 refine WC.ret ?_
 refine WQ.thenR ?_
 refine WQ.drop ?_
 exact WQ.returnsF h [] rfl (results1 rfl hs24_4) hle24 ⟨rfl, rfl⟩
 have h := ite_f hb22 h
 refine WC.skip ?_
 refine WQ.thenC ?_
 obtain ⟨x29, hj30, h⟩ := bnd h
 refine WC.joinF (fun (x29 : Bool) ρ' M' H' => M.le M' ∧ [(g21, .cells #[(.int .i64 a0.Broker), (.int .i64 a0.Epoch), (.int .i64 a0.High), (.bool a0.Fence), (.bool a0.Leave)] 27 (0, 0))] :: F = H' ∧ ρ' 4 = (.bool x29)) x29 ?_ ?_
 have h330 := h
 have h := hj30
 refine WC.region ?_
 refine Pu (.pointer (some ⟨g21, 0, none⟩)) (PO.fieldAddr fo27_0 rfl rfl) rfl ?_
 refine Pu (.int .i64 a0.Broker) (PO.loadB 0 pl3 rfl rfl rfl) rfl ?_
 refine Pu (.bool (decide ((1 : Int) ≤ a0.Broker))) (PO.geq rfl rfl) rfl ?_
 refine Pm (.bool (decide ((1 : Int) ≤ a0.Broker))) rfl rfl ?_
 rcases Bool.eq_false_or_eq_true (decide ((1 : Int) ≤ a0.Broker)) with hb31 | hb31
 have h := ite_t hb31 h
 refine On 33 rfl rfl hb31 ?_
 refine Pu (.pointer (some ⟨g21, 0, none⟩)) (PO.fieldAddr fo27_0 rfl rfl) rfl ?_
 refine On 33 rfl rfl hb31 ?_
 refine Pu (.int .i64 a0.Broker) (PO.loadB 0 pl3 rfl rfl rfl) rfl ?_
 refine On 33 rfl rfl hb31 ?_
 obtain ⟨r32, hr33, h⟩ := bnd h
 refine WL.eff (EO.call0 co28 (f_ref22_num_ok a0.Broker true (64 : Int) _ r32 hr33) (args3 rfl rfl rfl)) rfl ?_
 rintro _ M34 _ hle35 ⟨_, ⟨rfl, rfl⟩, rfl⟩
 refine WL.a0 ?_
 refine Pu (.bool r32) (PO.pickT rfl hb31 rfl) rfl ?_
 refine Pm (.bool r32) rfl rfl ?_
 rcases Bool.eq_false_or_eq_true (r32) with hb37 | hb37
 have h := ite_t hb37 h
 refine On 38 rfl rfl hb37 ?_
 refine Pu (.pointer (some ⟨g21, 1, none⟩)) (PO.fieldAddr fo27_1 rfl rfl) rfl ?_
 refine On 38 rfl rfl hb37 ?_
 refine Pu (.int .i64 a0.Epoch) (PO.loadB 0 pl3 rfl rfl rfl) rfl ?_
 refine On 38 rfl rfl hb37 ?_
 obtain ⟨r38, hr39, h⟩ := bnd h
 refine WL.eff (EO.call0 co28 (f_ref22_num_ok a0.Epoch true (1073741824 : Int) _ r38 hr39) (args3 rfl rfl rfl)) rfl ?_
 rintro _ M40 _ hle41 ⟨_, ⟨rfl, rfl⟩, rfl⟩
 refine WL.a0 ?_
 refine Pu (.bool r38) (PO.pickT rfl hb37 rfl) rfl ?_
 refine Pm (.bool r38) rfl rfl ?_
 rcases Bool.eq_false_or_eq_true (r38) with hb43 | hb43
 have h := ite_t hb43 h
 refine On 43 rfl rfl hb43 ?_
 refine Pu (.pointer (some ⟨g21, 2, none⟩)) (PO.fieldAddr fo27_2 rfl rfl) rfl ?_
 refine On 43 rfl rfl hb43 ?_
 refine Pu (.int .i64 a0.High) (PO.loadB 0 pl3 rfl rfl rfl) rfl ?_
 refine On 43 rfl rfl hb43 ?_
 obtain ⟨r44, hr45, h⟩ := bnd h
 refine WL.eff (EO.call0 co28 (f_ref22_num_ok a0.High true (1073741824 : Int) _ r44 hr45) (args3 rfl rfl rfl)) rfl ?_
 rintro _ M46 _ hle47 ⟨_, ⟨rfl, rfl⟩, rfl⟩
 refine WL.a0 ?_
 refine Pu (.bool r44) (PO.pickT rfl hb43 rfl) rfl ?_
 refine Pa (.bool r44) rfl rfl ?_
 refine WL.nil ?_
 obtain rfl := Option.some.inj h
 refine WQ.thenJ ?_
 exact ⟨((hle35.trans hle41).trans hle47), rfl, rfl⟩
 have h := ite_f hb43 h
 iterate 3 refine Of 43 rfl rfl hb43 rfl ?_
 refine Pu (.bool false) (PO.pickF rfl hb43 rfl) rfl ?_
 refine Pa (.bool false) rfl rfl ?_
 refine WL.nil ?_
 obtain rfl := Option.some.inj h
 refine WQ.thenJ ?_
 exact ⟨(hle35.trans hle41), rfl, rfl⟩
 have h := ite_f hb37 h
 iterate 3 refine Of 38 rfl rfl hb37 rfl ?_
 refine Pu (.bool false) (PO.pickF rfl hb37 rfl) rfl ?_
 refine Pm (.bool false) rfl rfl ?_
 iterate 3 refine Of 43 rfl rfl rfl rfl ?_
 refine Pu (.bool false) (PO.pickF rfl rfl rfl) rfl ?_
 refine Pa (.bool false) rfl rfl ?_
 refine WL.nil ?_
 obtain rfl := Option.some.inj h
 refine WQ.thenJ ?_
 exact ⟨hle35, rfl, rfl⟩
 have h := ite_f hb31 h
 iterate 3 refine Of 33 rfl rfl hb31 rfl ?_
 refine Pu (.bool false) (PO.pickF rfl hb31 rfl) rfl ?_
 refine Pm (.bool false) rfl rfl ?_
 iterate 3 refine Of 38 rfl rfl rfl rfl ?_
 refine Pu (.bool false) (PO.pickF rfl rfl rfl) rfl ?_
 refine Pm (.bool false) rfl rfl ?_
 iterate 3 refine Of 43 rfl rfl rfl rfl ?_
 refine Pu (.bool false) (PO.pickF rfl rfl rfl) rfl ?_
 refine Pa (.bool false) rfl rfl ?_
 refine WL.nil ?_
 obtain rfl := Option.some.inj h
 refine WQ.thenJ ?_
 exact ⟨(IM.le.refl _), rfl, rfl⟩
 rintro ρ30 M30 H30 ⟨hle30, rfl, hs30_4⟩
 refine WC.ret ?_
 refine WQ.drop ?_
 exact WQ.returnsF h [] rfl (results1 rfl hs30_4) hle30 ⟨rfl, rfl⟩


end Go.Proofs.Ytdlilclopmhiaaa.G
