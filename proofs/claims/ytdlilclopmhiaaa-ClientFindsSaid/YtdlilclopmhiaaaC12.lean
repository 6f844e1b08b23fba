/- Go functions: what they come to, and that they do. Printed by a program of the session (gen). -/
import Derived.Test.YtdlilclopmhiaaaCF
import Derived.Test.YtdlilclopmhiaaaC11
set_option linter.unusedVariables false
set_option linter.unusedSimpArgs false
namespace Go.Proofs.Ytdlilclopmhiaaa.G
open Go Go.KK

noncomputable def f_law28_ClientEnds_l0 (a1 : Int) (a2 : T_api_Request) (s_ : (Int × Int × Int × Int × Int × Int × (List T_api_Request) × Int × Int × Int × Int × Int × Int × Int × Int × Int)) : Option ((Int × Int × Int × Int × Int × Int × (List T_api_Request) × Int × Int × Int × Int × Int × Int × Int × Int × Int) ⊕ ((Int × Int × Int × Int × Int × Int × Int × Int × Int × Int × Int × Int × Int × (List T_api_Request) × Int) ⊕ (Int × Int × Int × Int × Int × Int × Int × Int × Int × Int × Int × Int × (List T_api_Request) × Int))) :=
  match s_ with
  | (x84, x85, x86, x87, x88, x89, x90, x91, x92, x93, x94, x95, x96, x97, x98, x99) =>
    (if (decide (x85 < (200 : Int))) = true then ((f_client_Ask (⟨x86, x87, x88, x89, x90, x91⟩ : T_api_Client)).bind fun (r130, r131, r132, r133) => (if (!r133) = true then (some (Sum.inr (Sum.inl (x84, x92, x93, x94, x95, x96, x97, x98, x99, r130.Id, r130.Serial, r130.Voters, r130.Node, r130.Open, r130.Tries)))) else (((if (decide (r131 < (1 : Int))) = true then (some true) else (if (decide ((IntKind.i64.wrap ((1 : Int) + ((IntKind.i64.wrap a1).tmod (7 : Int)))) < r131)) = true then (some true) else (if (decide (r132.Serial ≠ (1 : Int))) = true then (some true) else (some (decide (r132.Kind ≠ a2.Kind)))))) : Option Bool).bind fun (x144 : Bool) => (if x144 = true then (some (Sum.inr (Sum.inr (x92, x93, x94, x95, x96, x97, x98, x99, r130.Id, r130.Serial, r130.Voters, r130.Node, r130.Open, r130.Tries)))) else (grd (0 ≤ r131 ∧ r131 < (8 : Int)) (grd (0 ≤ r131 ∧ r131 < (8 : Int)) ((f_client_Lost r130).bind fun (r152 : T_api_Client) => (some (Sum.inl (IntKind.i64.wrap (x84 + (1 : Int)), IntKind.i64.wrap (x85 + (1 : Int)), r152.Id, r152.Serial, r152.Voters, r152.Node, r152.Open, r152.Tries, rd ([x92, x93, x94, x95, x96, x97, x98, x99].set (r131).toNat (IntKind.i64.wrap ((rd [x92, x93, x94, x95, x96, x97, x98, x99] r131) + (1 : Int)))) (0 : Int), rd ([x92, x93, x94, x95, x96, x97, x98, x99].set (r131).toNat (IntKind.i64.wrap ((rd [x92, x93, x94, x95, x96, x97, x98, x99] r131) + (1 : Int)))) (1 : Int), rd ([x92, x93, x94, x95, x96, x97, x98, x99].set (r131).toNat (IntKind.i64.wrap ((rd [x92, x93, x94, x95, x96, x97, x98, x99] r131) + (1 : Int)))) (2 : Int), rd ([x92, x93, x94, x95, x96, x97, x98, x99].set (r131).toNat (IntKind.i64.wrap ((rd [x92, x93, x94, x95, x96, x97, x98, x99] r131) + (1 : Int)))) (3 : Int), rd ([x92, x93, x94, x95, x96, x97, x98, x99].set (r131).toNat (IntKind.i64.wrap ((rd [x92, x93, x94, x95, x96, x97, x98, x99] r131) + (1 : Int)))) (4 : Int), rd ([x92, x93, x94, x95, x96, x97, x98, x99].set (r131).toNat (IntKind.i64.wrap ((rd [x92, x93, x94, x95, x96, x97, x98, x99] r131) + (1 : Int)))) (5 : Int), rd ([x92, x93, x94, x95, x96, x97, x98, x99].set (r131).toNat (IntKind.i64.wrap ((rd [x92, x93, x94, x95, x96, x97, x98, x99] r131) + (1 : Int)))) (6 : Int), rd ([x92, x93, x94, x95, x96, x97, x98, x99].set (r131).toNat (IntKind.i64.wrap ((rd [x92, x93, x94, x95, x96, x97, x98, x99] r131) + (1 : Int)))) (7 : Int))))))))))) else (some (Sum.inr (Sum.inl (x84, x92, x93, x94, x95, x96, x97, x98, x99, x86, x87, x88, x89, x90, x91)))))
noncomputable def f_law28_ClientEnds_l1 (a1 : Int) (x68 : Int) (x69 : Int) (x70 : Int) (x71 : Int) (x72 : Int) (x73 : Int) (x74 : Int) (x75 : Int) (s_ : Int) : Option (Int ⊕ (Unit ⊕ Unit)) :=
  match s_ with
  | x159 =>
    (if (decide (x159 ≤ (IntKind.i64.wrap ((1 : Int) + ((IntKind.i64.wrap a1).tmod (7 : Int)))))) = true then (grd (0 ≤ x159 ∧ x159 < (8 : Int)) (grd (IntKind.i64.wrap ((1 : Int) + ((IntKind.i64.wrap a1).tmod (7 : Int))) ≠ 0) (if (decide ((rd [x68, x69, x70, x71, x72, x73, x74, x75] x159) < (IntKind.i64.wrap ((50 : Int).tdiv (IntKind.i64.wrap ((1 : Int) + ((IntKind.i64.wrap a1).tmod (7 : Int)))))))) = true then (some (Sum.inr (Sum.inr ()))) else (some (Sum.inl (IntKind.i64.wrap (x159 + (1 : Int)))))))) else (some (Sum.inr (Sum.inl ()))))
noncomputable def f_law28_ClientEnds (a0 : Int) (a1 : Int) (a2 : T_api_Request) (a3 : T_api_Request) : Option Bool :=
  ((((f_ref20_Short a2).bind fun (r25 : Bool) => (if (!r25) = true then (some true) else ((f_ref20_Short a3).bind fun (r31 : Bool) => (some (!r31))))) : Option Bool).bind fun (x23 : Bool) => (if x23 = true then ((f_law28_works).bind fun (r37 : Bool) => (some r37)) else ((f_client_New (IntKind.i64.wrap ((1 : Int) + (IntKind.i64.wrap a0))) (IntKind.i64.wrap ((1 : Int) + ((IntKind.i64.wrap a1).tmod (7 : Int))))).bind fun (r42, r43) => (if (!r43.isNil) = true then (some false) else ((f_client_Begin r42 a2).bind fun (r53, r54) => (if (!r54.isNil) = true then ((f_law28_works).bind fun (r61 : Bool) => (some r61)) else ((((iter (f_law28_ClientEnds_l0 a1 a2) ((0 : Int), (0 : Int), r53.Id, r53.Serial, r53.Voters, r53.Node, r53.Open, r53.Tries, (0 : Int), (0 : Int), (0 : Int), (0 : Int), (0 : Int), (0 : Int), (0 : Int), (0 : Int))).bind (Sum.elim (fun (x100, x101, x102, x103, x104, x105, x106, x107, x108, x109, x110, x111, x112, x113, x114) => (some (Sum.inl (x100, x101, x102, x103, x104, x105, x106, x107, x108, x109, x110, x111, x112, x113, x114)))) (fun (x115, x116, x117, x118, x119, x120, x121, x122, x123, x124, x125, x126, x127, x128) => (((some false)).bind fun r => some (Sum.inr r))))) : Option ((Int × Int × Int × Int × Int × Int × Int × Int × Int × Int × Int × Int × Int × (List T_api_Request) × Int) ⊕ Bool)).bind (Sum.elim (fun (x67, x68, x69, x70, x71, x72, x73, x74, x75, x76, x77, x78, x79, x80, x81) => ((((iter (f_law28_ClientEnds_l1 a1 x68 x69 x70 x71 x72 x73 x74 x75) (1 : Int)).bind (Sum.elim (fun _ => (some (Sum.inl ()))) (fun _ => (((some false)).bind fun r => some (Sum.inr r))))) : Option (Unit ⊕ Bool)).bind (Sum.elim (fun _ => (((if (decide (x67 ≠ (50 : Int))) = true then (some true) else (some (decide ((x80.length : Int) ≠ (0 : Int))))) : Option Bool).bind fun (x164 : Bool) => (if x164 = true then (some false) else ((f_client_Begin (⟨x76, x77, x78, x79, x80, x81⟩ : T_api_Client) a3).bind fun (r168, r169) => (((if (!r169.isNil) = true then ((f_law28_works).bind fun (r179 : Bool) => (some r179)) else (if (decide (r168.Serial = (2 : Int))) = true then ((f_law28_works).bind fun (r185 : Bool) => (some r185)) else (some false))) : Option Bool).bind fun (x176 : Bool) => (some x176)))))) some))) some))))))))
def f_law28_ClientEnds_post (a0 : Int) (a1 : Int) (a2 : T_api_Request) (a3 : T_api_Request) (v2_10 v3_10 : Value) : Bool → Value → IM → HL → Prop :=
  fun (r0 : Bool) (v : Value) (M' : IM) (H' : HL) => (.bool r0) = v ∧ H' = []
set_option maxHeartbeats 8000000 in
set_option maxRecDepth 100000 in
theorem f_law28_ClientEnds_ok (a0 : Int) (a1 : Int) (a2 : T_api_Request) (a3 : T_api_Request) (M : IM) (v2_10 v3_10 : Value) (h2_10 : RS (Kd.int .i64) M v2_10 a2.Ids) (h3_10 : RS (Kd.int .i64) M v3_10 a3.Ids) (res : Bool) (h : f_law28_ClientEnds a0 a1 a2 a3 = some res) :
    Tri Try.prog 4 #[(.int .u16 a0), (.int .u8 a1), (.agg #[(.int .i64 a2.Client), (.int .i64 a2.Serial), (.int .i64 a2.Kind), (.string a2.Name), (.string a2.Key), (.string a2.Value), (.bool a2.Flag), (.int .i64 a2.Parts), (.int .i64 a2.Replicas), (.int .i64 a2.Part), v2_10, (.int .i64 a2.Broker), (.int .i64 a2.Epoch), (.string a2.Rack), (.int .i64 a2.Word.Broker), (.int .i64 a2.Word.Epoch), (.int .i64 a2.Word.High), (.bool a2.Word.Fence), (.bool a2.Word.Leave)]), (.agg #[(.int .i64 a3.Client), (.int .i64 a3.Serial), (.int .i64 a3.Kind), (.string a3.Name), (.string a3.Key), (.string a3.Value), (.bool a3.Flag), (.int .i64 a3.Parts), (.int .i64 a3.Replicas), (.int .i64 a3.Part), v3_10, (.int .i64 a3.Broker), (.int .i64 a3.Epoch), (.string a3.Rack), (.int .i64 a3.Word.Broker), (.int .i64 a3.Word.Epoch), (.int .i64 a3.Word.High), (.bool a3.Word.Fence), (.bool a3.Word.Leave)])] M [] (f_law28_ClientEnds_post a0 a1 a2 a3 v2_10 v3_10 res) := by
 unfold f_law28_ClientEnds at h
 refine Tri.enter (fn := Try.f4) Try.func4 rfl (Nat.le_of_ble_eq_true rfl) ?_
 intro F ρ hρ
 refine Sr ?_
 refine WL.eff (EO.box (cs := #[(.int .i64 a2.Client), (.int .i64 a2.Serial), (.int .i64 a2.Kind), (.string a2.Name), (.string a2.Key), (.string a2.Value), (.bool a2.Flag), (.int .i64 a2.Parts), (.int .i64 a2.Replicas), (.int .i64 a2.Part), v2_10, (.int .i64 a2.Broker), (.int .i64 a2.Epoch), (.string a2.Rack), (.int .i64 a2.Word.Broker), (.int .i64 a2.Word.Epoch), (.int .i64 a2.Word.High), (.bool a2.Word.Fence), (.bool a2.Word.Leave)]) (congrArg Value.cells (asE (.agg #[(.int .i64 a2.Client), (.int .i64 a2.Serial), (.int .i64 a2.Kind), (.string a2.Name), (.string a2.Key), (.string a2.Value), (.bool a2.Flag), (.int .i64 a2.Parts), (.int .i64 a2.Replicas), (.int .i64 a2.Part), v2_10, (.int .i64 a2.Broker), (.int .i64 a2.Epoch), (.string a2.Rack), (.int .i64 a2.Word.Broker), (.int .i64 a2.Word.Epoch), (.int .i64 a2.Word.High), (.bool a2.Word.Fence), (.bool a2.Word.Leave)]) (hρ 2)))) rfl ?_
 rintro _ _ _ - ⟨rfl, g21, rfl, rfl⟩
 refine WL.eff (EO.box (cs := #[(.int .i64 a3.Client), (.int .i64 a3.Serial), (.int .i64 a3.Kind), (.string a3.Name), (.string a3.Key), (.string a3.Value), (.bool a3.Flag), (.int .i64 a3.Parts), (.int .i64 a3.Replicas), (.int .i64 a3.Part), v3_10, (.int .i64 a3.Broker), (.int .i64 a3.Epoch), (.string a3.Rack), (.int .i64 a3.Word.Broker), (.int .i64 a3.Word.Epoch), (.int .i64 a3.Word.High), (.bool a3.Word.Fence), (.bool a3.Word.Leave)]) (congrArg Value.cells (asE (.agg #[(.int .i64 a3.Client), (.int .i64 a3.Serial), (.int .i64 a3.Kind), (.string a3.Name), (.string a3.Key), (.string a3.Value), (.bool a3.Flag), (.int .i64 a3.Parts), (.int .i64 a3.Replicas), (.int .i64 a3.Part), v3_10, (.int .i64 a3.Broker), (.int .i64 a3.Epoch), (.string a3.Rack), (.int .i64 a3.Word.Broker), (.int .i64 a3.Word.Epoch), (.int .i64 a3.Word.High), (.bool a3.Word.Fence), (.bool a3.Word.Leave)]) (hρ 3)))) rfl ?_
 rintro _ _ _ - ⟨rfl, g22, rfl, rfl⟩
 refine Pa (.bool false) rfl rfl ?_
 refine Nt ?_
 refine WC.seq ?_
 obtain ⟨x23, hj24, h⟩ := bnd h
 refine WC.joinF (fun (x23 : Bool) ρ' M' H' => M.le M' ∧ [(g22, .cells #[(.int .i64 a3.Client), (.int .i64 a3.Serial), (.int .i64 a3.Kind), (.string a3.Name), (.string a3.Key), (.string a3.Value), (.bool a3.Flag), (.int .i64 a3.Parts), (.int .i64 a3.Replicas), (.int .i64 a3.Part), v3_10, (.int .i64 a3.Broker), (.int .i64 a3.Epoch), (.string a3.Rack), (.int .i64 a3.Word.Broker), (.int .i64 a3.Word.Epoch), (.int .i64 a3.Word.High), (.bool a3.Word.Fence), (.bool a3.Word.Leave)] 29 (0, 0))] :: [(g21, .cells #[(.int .i64 a2.Client), (.int .i64 a2.Serial), (.int .i64 a2.Kind), (.string a2.Name), (.string a2.Key), (.string a2.Value), (.bool a2.Flag), (.int .i64 a2.Parts), (.int .i64 a2.Replicas), (.int .i64 a2.Part), v2_10, (.int .i64 a2.Broker), (.int .i64 a2.Epoch), (.string a2.Rack), (.int .i64 a2.Word.Broker), (.int .i64 a2.Word.Epoch), (.int .i64 a2.Word.High), (.bool a2.Word.Fence), (.bool a2.Word.Leave)] 29 (0, 0))] :: F = H' ∧ ρ' 0 = (.int .u16 a0) ∧ ρ' 1 = (.int .u8 a1) ∧ ρ' 6 = (.pointer (some ⟨g21, 0, none⟩)) ∧ ρ' 7 = (.pointer (some ⟨g22, 0, none⟩)) ∧ ρ' 30 = (.bool x23)) x23 ?_ ?_
 have h324 := h
 have h := hj24
 refine WC.region ?_
 refine Pu (.agg #[(.int .i64 a2.Client), (.int .i64 a2.Serial), (.int .i64 a2.Kind), (.string a2.Name), (.string a2.Key), (.string a2.Value), (.bool a2.Flag), (.int .i64 a2.Parts), (.int .i64 a2.Replicas), (.int .i64 a2.Part), v2_10, (.int .i64 a2.Broker), (.int .i64 a2.Epoch), (.string a2.Rack), (.int .i64 a2.Word.Broker), (.int .i64 a2.Word.Epoch), (.int .i64 a2.Word.High), (.bool a2.Word.Fence), (.bool a2.Word.Leave)]) (PO.loadBA (cs := [(.int .i64 a2.Client), (.int .i64 a2.Serial), (.int .i64 a2.Kind), (.string a2.Name), (.string a2.Key), (.string a2.Value), (.bool a2.Flag), (.int .i64 a2.Parts), (.int .i64 a2.Replicas), (.int .i64 a2.Part), v2_10, (.int .i64 a2.Broker), (.int .i64 a2.Epoch), (.string a2.Rack), (.int .i64 a2.Word.Broker), (.int .i64 a2.Word.Epoch), (.int .i64 a2.Word.High), (.bool a2.Word.Fence), (.bool a2.Word.Leave)]) 1 ag29 sz29 rfl rfl rfl) rfl ?_
 obtain ⟨r25, hr26, h⟩ := bnd h
 refine WL.eff (EO.call0 co7 (f_ref20_Short_ok a2 _ _ h2_10 r25 hr26) (args1 rfl)) rfl ?_
 rintro _ M27 _ hle28 ⟨_, ⟨rfl, rfl⟩, rfl⟩
 have h2_10 := h2_10.mono hle28
 have h3_10 := h3_10.mono hle28
 refine WL.a0 ?_
 refine Pu (.bool (!r25)) (PO.not rfl) rfl ?_
 refine Pm (.bool (!r25)) rfl rfl ?_
 rcases Bool.eq_false_or_eq_true (!r25) with hb30 | hb30
 have h := ite_t hb30 h
 iterate 3 refine Of 26 rfl rfl hb30 rfl ?_
 refine Pu (.bool true) (PO.pickT rfl hb30 rfl) rfl ?_
 refine WL.nil ?_
 obtain rfl := Option.some.inj h
 refine WQ.thenJ ?_
 exact ⟨hle28, rfl, (hρ 0), (hρ 1), rfl, rfl, rfl⟩
 have h := ite_f hb30 h
 refine On 26 rfl rfl hb30 ?_
 refine Pu (.agg #[(.int .i64 a3.Client), (.int .i64 a3.Serial), (.int .i64 a3.Kind), (.string a3.Name), (.string a3.Key), (.string a3.Value), (.bool a3.Flag), (.int .i64 a3.Parts), (.int .i64 a3.Replicas), (.int .i64 a3.Part), v3_10, (.int .i64 a3.Broker), (.int .i64 a3.Epoch), (.string a3.Rack), (.int .i64 a3.Word.Broker), (.int .i64 a3.Word.Epoch), (.int .i64 a3.Word.High), (.bool a3.Word.Fence), (.bool a3.Word.Leave)]) (PO.loadBA (cs := [(.int .i64 a3.Client), (.int .i64 a3.Serial), (.int .i64 a3.Kind), (.string a3.Name), (.string a3.Key), (.string a3.Value), (.bool a3.Flag), (.int .i64 a3.Parts), (.int .i64 a3.Replicas), (.int .i64 a3.Part), v3_10, (.int .i64 a3.Broker), (.int .i64 a3.Epoch), (.string a3.Rack), (.int .i64 a3.Word.Broker), (.int .i64 a3.Word.Epoch), (.int .i64 a3.Word.High), (.bool a3.Word.Fence), (.bool a3.Word.Leave)]) 0 ag29 sz29 rfl rfl rfl) rfl ?_
 refine On 26 rfl rfl hb30 ?_
 obtain ⟨r31, hr32, h⟩ := bnd h
 refine WL.eff (EO.call0 co7 (f_ref20_Short_ok a3 _ _ h3_10 r31 hr32) (args1 rfl)) rfl ?_
 rintro _ M33 _ hle34 ⟨_, ⟨rfl, rfl⟩, rfl⟩
 have h2_10 := h2_10.mono hle34
 have h3_10 := h3_10.mono hle34
 refine WL.a0 ?_
 refine On 26 rfl rfl hb30 ?_
 refine Pu (.bool (!r31)) (PO.not rfl) rfl ?_
 refine Pu (.bool (!r31)) (PO.pickF rfl hb30 rfl) rfl ?_
 refine WL.nil ?_
 obtain rfl := Option.some.inj h
 refine WQ.thenJ ?_
 exact ⟨(hle28.trans hle34), rfl, (hρ 0), (hρ 1), rfl, rfl, rfl⟩
 rintro ρ24 M24 H24 ⟨hle24, rfl, hs24_0, hs24_1, hs24_6, hs24_7, hs24_30⟩
 have h3_10 := h3_10.mono hle24
 have h2_10 := h2_10.mono hle24
 refine WC.cond (b := x23) hs24_30 (fun hb36 => ?_) (fun hb36 => ?_)
 have h := ite_t hb36 h
 refine Sr ?_
 obtain ⟨r37, hr38, h⟩ := bnd h
 refine WL.eff (EO.call0 co9 (f_law28_works_ok _ r37 hr38) (args0)) rfl ?_
 rintro _ M39 _ hle40 ⟨_, ⟨rfl, rfl⟩, rfl⟩
 have h3_10 := h3_10.mono hle40
 have h2_10 := h2_10.mono hle40
 refine WL.a0 ?_
 refine Pa (.bool r37) rfl rfl ?_
 refine Nt ?_
 refine WC.ret ?_
 refine WQ.thenR ?_
 refine WQ.drop ?_
 refine WQ.drop ?_
 exact WQ.returnsF h [] rfl (results1 rfl rfl) (hle24.trans hle40) ⟨rfl, rfl⟩
 have h := ite_f hb36 h
 refine WC.skip ?_
 refine WQ.thenC ?_
 refine Sr ?_
 refine Pm (.int .u8 a1) hs24_1 rfl ?_
 refine Pu (.int .i64 (IntKind.i64.wrap a1)) (PO.conv us5 Try.underlying3 rfl) rfl ?_
 refine Pu (.int .i64 ((IntKind.i64.wrap a1).tmod (7 : Int))) (PO.rem rfl rfl (by decide)) rfl ?_
 refine Pu (.int .i64 (IntKind.i64.wrap ((1 : Int) + ((IntKind.i64.wrap a1).tmod (7 : Int))))) (PO.add rfl rfl) rfl ?_
 refine Pa (.int .i64 (IntKind.i64.wrap ((1 : Int) + ((IntKind.i64.wrap a1).tmod (7 : Int))))) rfl rfl ?_
 refine Ns ?_
 refine Pm (.int .u16 a0) hs24_0 rfl ?_
 refine Pu (.int .i64 (IntKind.i64.wrap a0)) (PO.conv us50 Try.underlying3 rfl) rfl ?_
 refine Pu (.int .i64 (IntKind.i64.wrap ((1 : Int) + (IntKind.i64.wrap a0)))) (PO.add rfl rfl) rfl ?_
 refine Pm (.int .i64 (IntKind.i64.wrap ((1 : Int) + ((IntKind.i64.wrap a1).tmod (7 : Int))))) rfl rfl ?_
 obtain ⟨⟨r42, r43⟩, hr44, h⟩ := bnd h
 refine WL.eff (EO.call0 co15 (f_client_New_ok (IntKind.i64.wrap ((1 : Int) + (IntKind.i64.wrap a0))) (IntKind.i64.wrap ((1 : Int) + ((IntKind.i64.wrap a1).tmod (7 : Int)))) _ (r42, r43) hr44) (args2 rfl rfl)) rfl ?_
 rintro _ M45 _ hle46 ⟨_, ⟨vq47_4, cq47_4, rfl, rfl, hq47_4⟩, rfl⟩
 have h3_10 := h3_10.mono hle46
 have h2_10 := h2_10.mono hle46
 refine WL.a1 ?_
 refine Pm (.tuple #[(.agg #[(.int .i64 r42.Id), (.int .i64 r42.Serial), (.int .i64 r42.Voters), (.int .i64 r42.Node), vq47_4, (.int .i64 r42.Tries)]), (GV r43)]) rfl rfl ?_
 refine Pu (.agg #[(.int .i64 r42.Id), (.int .i64 r42.Serial), (.int .i64 r42.Voters), (.int .i64 r42.Node), vq47_4, (.int .i64 r42.Tries)]) (PO.extract rfl rfl) rfl ?_
 refine Pu (GV r43) (PO.extract rfl rfl) rfl ?_
 refine WL.eff (EO.alloc ze24 rfl) rfl ?_
 rintro _ _ _ - ⟨rfl, g49, rfl, rfl⟩
 refine WL.eff (EO.storeL (v := (.agg #[(.int .i64 r42.Id), (.int .i64 r42.Serial), (.int .i64 r42.Voters), (.int .i64 r42.Node), vq47_4, (.int .i64 r42.Tries)])) (vl := [(.int .i64 r42.Id), (.int .i64 r42.Serial), (.int .i64 r42.Voters), (.int .i64 r42.Node), vq47_4, (.int .i64 r42.Tries)]) (arr' := [(.int .i64 r42.Id), (.int .i64 r42.Serial), (.int .i64 r42.Voters), (.int .i64 r42.Node), vq47_4, (.int .i64 r42.Tries)]) rfl sz24 rfl rfl (onesOf (Ones.cons rfl (Ones.cons rfl (Ones.cons rfl (Ones.cons rfl (Ones.cons (OwnS.one hq47_4) (Ones.cons rfl Ones.nil))))))) rfl rfl rfl) rfl ?_
 rintro _ _ _ - ⟨rfl, rfl⟩
 refine Pa (GV r43) rfl rfl ?_
 refine Nt ?_
 refine WC.seq ?_
 refine Sr ?_
 refine Pm (GV r43) rfl rfl ?_
 refine Pu (.bool (!r43.isNil)) (PO.errNotNil Try.underlying40 rfl) rfl ?_
 refine Nt ?_
 refine WC.cond (b := !r43.isNil) rfl (fun hb50 => ?_) (fun hb50 => ?_)
 have h := ite_t hb50 h
 refine Sr ?_
 refine Pa (.bool false) rfl rfl ?_
 refine Nt ?_
 refine WC.ret ?_
 refine WQ.thenR ?_
 refine WQ.drop ?_
 refine WQ.drop ?_
 refine WQ.drop ?_
 refine WQ.drop ?_
 exact WQ.returnsF h [] rfl (results1 rfl rfl) (hle24.trans hle46) ⟨rfl, rfl⟩
 have h := ite_f hb50 h
 refine WC.skip ?_
 refine WQ.thenC ?_
 refine Sr ?_
 refine Pu (.agg #[(.int .i64 r42.Id), (.int .i64 r42.Serial), (.int .i64 r42.Voters), (.int .i64 r42.Node), vq47_4, (.int .i64 r42.Tries)]) (PO.loadBA (cs := [(.int .i64 r42.Id), (.int .i64 r42.Serial), (.int .i64 r42.Voters), (.int .i64 r42.Node), vq47_4, (.int .i64 r42.Tries)]) 0 ag24 sz24 rfl rfl rfl) rfl ?_
 refine Pu (.agg #[(.int .i64 a2.Client), (.int .i64 a2.Serial), (.int .i64 a2.Kind), (.string a2.Name), (.string a2.Key), (.string a2.Value), (.bool a2.Flag), (.int .i64 a2.Parts), (.int .i64 a2.Replicas), (.int .i64 a2.Part), v2_10, (.int .i64 a2.Broker), (.int .i64 a2.Epoch), (.string a2.Rack), (.int .i64 a2.Word.Broker), (.int .i64 a2.Word.Epoch), (.int .i64 a2.Word.High), (.bool a2.Word.Fence), (.bool a2.Word.Leave)]) (PO.loadBA (cs := [(.int .i64 a2.Client), (.int .i64 a2.Serial), (.int .i64 a2.Kind), (.string a2.Name), (.string a2.Key), (.string a2.Value), (.bool a2.Flag), (.int .i64 a2.Parts), (.int .i64 a2.Replicas), (.int .i64 a2.Part), v2_10, (.int .i64 a2.Broker), (.int .i64 a2.Epoch), (.string a2.Rack), (.int .i64 a2.Word.Broker), (.int .i64 a2.Word.Epoch), (.int .i64 a2.Word.High), (.bool a2.Word.Fence), (.bool a2.Word.Leave)]) 3 ag29 sz29 hs24_6 rfl rfl) rfl ?_
 refine WL.f1 ?_
 refine WL.know (fun _ hs => hq47_4.rs hs) (fun hf52 => ?_)
 refine WL.freeze (fun hle51 => ?_)
 have h2_10 := h2_10.mono hle51
 have h3_10 := h3_10.mono hle51
 obtain ⟨⟨r53, r54⟩, hr55, h⟩ := bnd h
 refine WL.eff (EO.call0 co10 (f_client_Begin_ok r42 a2 _ _ _ hf52 h2_10 (r53, r54) hr55) (args2 rfl rfl)) rfl ?_
 rintro _ M56 _ hle57 ⟨_, ⟨vq58_4, rfl, rfl, hq58_4⟩, rfl⟩
 have hf52 := hf52.mono hle57
 have h2_10 := h2_10.mono hle57
 have h3_10 := h3_10.mono hle57
 refine WL.a0 ?_
 refine Pm (.tuple #[(.agg #[(.int .i64 r53.Id), (.int .i64 r53.Serial), (.int .i64 r53.Voters), (.int .i64 r53.Node), vq58_4, (.int .i64 r53.Tries)]), (GV r54)]) rfl rfl ?_
 refine Pu (.agg #[(.int .i64 r53.Id), (.int .i64 r53.Serial), (.int .i64 r53.Voters), (.int .i64 r53.Node), vq58_4, (.int .i64 r53.Tries)]) (PO.extract rfl rfl) rfl ?_
 refine Pu (GV r54) (PO.extract rfl rfl) rfl ?_
 refine WL.eff (EO.storeL (v := (.agg #[(.int .i64 r53.Id), (.int .i64 r53.Serial), (.int .i64 r53.Voters), (.int .i64 r53.Node), vq58_4, (.int .i64 r53.Tries)])) (vl := [(.int .i64 r53.Id), (.int .i64 r53.Serial), (.int .i64 r53.Voters), (.int .i64 r53.Node), vq58_4, (.int .i64 r53.Tries)]) (arr' := [(.int .i64 r53.Id), (.int .i64 r53.Serial), (.int .i64 r53.Voters), (.int .i64 r53.Node), vq58_4, (.int .i64 r53.Tries)]) rfl sz24 rfl rfl (onesOf (Ones.cons rfl (Ones.cons rfl (Ones.cons rfl (Ones.cons rfl (Ones.cons (RS.one hq58_4) (Ones.cons rfl Ones.nil))))))) rfl rfl rfl) rfl ?_
 rintro _ _ _ - ⟨rfl, rfl⟩
 refine Pa (GV r54) rfl rfl ?_
 refine Nt ?_
 refine WC.seq ?_
 refine Sr ?_
 refine Pm (GV r54) rfl rfl ?_
 refine Pu (.bool (!r54.isNil)) (PO.errNotNil Try.underlying40 rfl) rfl ?_
 refine Nt ?_
 refine WC.cond (b := !r54.isNil) rfl (fun hb60 => ?_) (fun hb60 => ?_)
 have h := ite_t hb60 h
 refine Sr ?_
 obtain ⟨r61, hr62, h⟩ := bnd h
 refine WL.eff (EO.call0 co9 (f_law28_works_ok _ r61 hr62) (args0)) rfl ?_
 rintro _ M63 _ hle64 ⟨_, ⟨rfl, rfl⟩, rfl⟩
 have h3_10 := h3_10.mono hle64
 have h2_10 := h2_10.mono hle64
 have hq58_4 := hq58_4.mono hle64
 refine WL.a0 ?_
 refine Pa (.bool r61) rfl rfl ?_
 refine Nt ?_
 refine WC.ret ?_
 refine WQ.thenR ?_
 refine WQ.drop ?_
 refine WQ.drop ?_
 refine WQ.drop ?_
 exact WQ.returnsF h [] rfl (results1 rfl rfl) ((((hle24.trans hle46).trans hle51).trans hle57).trans hle64) ⟨rfl, rfl⟩
 have h := ite_f hb60 h
 refine WC.skip ?_
 refine WQ.thenC ?_
 refine Sr ?_
 refine WL.eff (EO.alloc ze52 rfl) rfl ?_
 rintro _ _ _ - ⟨rfl, g66, rfl, rfl⟩
 refine Ns ?_
 refine Pa (.int .i64 (0 : Int)) rfl rfl ?_
 refine Nt ?_
 obtain ⟨j82, hj82, h⟩ := bnd h
 refine WC.joinE (fun (p_ : (Int × Int × Int × Int × Int × Int × Int × Int × Int × Int × Int × Int × Int × (List T_api_Request) × Int)) ρ' M' H' => match p_ with | (x67, x68, x69, x70, x71, x72, x73, x74, x75, x76, x77, x78, x79, x80, x81) => ∃ vx80, M56.le M' ∧ [(g66, .cells #[(.int .i64 x68), (.int .i64 x69), (.int .i64 x70), (.int .i64 x71), (.int .i64 x72), (.int .i64 x73), (.int .i64 x74), (.int .i64 x75)] 52 (0, 0))] :: [(g49, .cells #[(.int .i64 x76), (.int .i64 x77), (.int .i64 x78), (.int .i64 x79), vx80, (.int .i64 x81)] 24 (0, 0))] :: [(g22, .cells #[(.int .i64 a3.Client), (.int .i64 a3.Serial), (.int .i64 a3.Kind), (.string a3.Name), (.string a3.Key), (.string a3.Value), (.bool a3.Flag), (.int .i64 a3.Parts), (.int .i64 a3.Replicas), (.int .i64 a3.Part), v3_10, (.int .i64 a3.Broker), (.int .i64 a3.Epoch), (.string a3.Rack), (.int .i64 a3.Word.Broker), (.int .i64 a3.Word.Epoch), (.int .i64 a3.Word.High), (.bool a3.Word.Fence), (.bool a3.Word.Leave)] 29 (0, 0))] :: [(g21, .cells #[(.int .i64 a2.Client), (.int .i64 a2.Serial), (.int .i64 a2.Kind), (.string a2.Name), (.string a2.Key), (.string a2.Value), (.bool a2.Flag), (.int .i64 a2.Parts), (.int .i64 a2.Replicas), (.int .i64 a2.Part), v2_10, (.int .i64 a2.Broker), (.int .i64 a2.Epoch), (.string a2.Rack), (.int .i64 a2.Word.Broker), (.int .i64 a2.Word.Epoch), (.int .i64 a2.Word.High), (.bool a2.Word.Fence), (.bool a2.Word.Leave)] 29 (0, 0))] :: F = H' ∧ ρ' 7 = (.pointer (some ⟨g22, 0, none⟩)) ∧ ρ' 9 = (.int .i64 (IntKind.i64.wrap ((1 : Int) + ((IntKind.i64.wrap a1).tmod (7 : Int))))) ∧ ρ' 10 = (.pointer (some ⟨g49, 0, none⟩)) ∧ ρ' 13 = (.pointer (some ⟨g66, 0, none⟩)) ∧ ρ' 14 = (.int .i64 x67) ∧ RS kd_api_Request M' vx80 x80) j82 ?_ ?_
 have h382 := h
 have h := hj82
 refine Sr ?_
 refine Pa (.int .i64 (0 : Int)) rfl rfl ?_
 refine Nt ?_
 refine WC.block ?_
 obtain ⟨e83, he83, hK83⟩ := bnd h
 clear h
 refine WC.loop he83 (fun (p_ : (Int × Int × Int × Int × Int × Int × (List T_api_Request) × Int × Int × Int × Int × Int × Int × Int × Int × Int)) ρ' M' H' => match p_ with | (x84, x85, x86, x87, x88, x89, x90, x91, x92, x93, x94, x95, x96, x97, x98, x99) => ∃ vx90, M56.le M' ∧ [(g66, .cells #[(.int .i64 x92), (.int .i64 x93), (.int .i64 x94), (.int .i64 x95), (.int .i64 x96), (.int .i64 x97), (.int .i64 x98), (.int .i64 x99)] 52 (0, 0))] :: [(g49, .cells #[(.int .i64 x86), (.int .i64 x87), (.int .i64 x88), (.int .i64 x89), vx90, (.int .i64 x91)] 24 (0, 0))] :: [(g22, .cells #[(.int .i64 a3.Client), (.int .i64 a3.Serial), (.int .i64 a3.Kind), (.string a3.Name), (.string a3.Key), (.string a3.Value), (.bool a3.Flag), (.int .i64 a3.Parts), (.int .i64 a3.Replicas), (.int .i64 a3.Part), v3_10, (.int .i64 a3.Broker), (.int .i64 a3.Epoch), (.string a3.Rack), (.int .i64 a3.Word.Broker), (.int .i64 a3.Word.Epoch), (.int .i64 a3.Word.High), (.bool a3.Word.Fence), (.bool a3.Word.Leave)] 29 (0, 0))] :: [(g21, .cells #[(.int .i64 a2.Client), (.int .i64 a2.Serial), (.int .i64 a2.Kind), (.string a2.Name), (.string a2.Key), (.string a2.Value), (.bool a2.Flag), (.int .i64 a2.Parts), (.int .i64 a2.Replicas), (.int .i64 a2.Part), v2_10, (.int .i64 a2.Broker), (.int .i64 a2.Epoch), (.string a2.Rack), (.int .i64 a2.Word.Broker), (.int .i64 a2.Word.Epoch), (.int .i64 a2.Word.High), (.bool a2.Word.Fence), (.bool a2.Word.Leave)] 29 (0, 0))] :: F = H' ∧ ρ' 6 = (.pointer (some ⟨g21, 0, none⟩)) ∧ ρ' 7 = (.pointer (some ⟨g22, 0, none⟩)) ∧ ρ' 9 = (.int .i64 (IntKind.i64.wrap ((1 : Int) + ((IntKind.i64.wrap a1).tmod (7 : Int))))) ∧ ρ' 10 = (.pointer (some ⟨g49, 0, none⟩)) ∧ ρ' 13 = (.pointer (some ⟨g66, 0, none⟩)) ∧ ρ' 14 = (.int .i64 x84) ∧ ρ' 15 = (.int .i64 x85) ∧ RS kd_api_Request M' vx90 x90) ?_ ?_
 exact ⟨vq58_4, (IM.le.refl _), rfl, hs24_6, hs24_7, rfl, rfl, rfl, rfl, rfl, hq58_4⟩
 rintro ⟨x84, x85, x86, x87, x88, x89, x90, x91, x92, x93, x94, x95, x96, x97, x98, x99⟩ o83 ρ83 M83 H83 h ⟨vx90, hle83, rfl, hs83_6, hs83_7, hs83_9, hs83_10, hs83_13, hs83_14, hs83_15, hx90⟩
 unfold f_law28_ClientEnds_l0 at h
 have h3_10 := h3_10.mono hle83
 have h2_10 := h2_10.mono hle83
 refine WC.seq ?_
 refine Sr ?_
 refine Pm (.int .i64 x85) hs83_15 rfl ?_
 refine Pu (.bool (decide (x85 < (200 : Int)))) (PO.lss rfl rfl) rfl ?_
 refine Nt ?_
 refine WC.cond (b := decide (x85 < (200 : Int))) rfl (fun hb129 => ?_) (fun hb129 => ?_)
 have h := ite_t hb129 h
 refine WC.skip ?_
 refine WQ.thenC ?_
 refine WC.seq ?_
 refine WC.block ?_
 refine Sr ?_
 refine Pu (.agg #[(.int .i64 x86), (.int .i64 x87), (.int .i64 x88), (.int .i64 x89), vx90, (.int .i64 x91)]) (PO.loadBA (cs := [(.int .i64 x86), (.int .i64 x87), (.int .i64 x88), (.int .i64 x89), vx90, (.int .i64 x91)]) 1 ag24 sz24 hs83_10 rfl rfl) rfl ?_
 obtain ⟨⟨r130, r131, r132, r133⟩, hr134, h⟩ := bnd h
 refine WL.eff (EO.call0 co11 (f_client_Ask_ok (⟨x86, x87, x88, x89, x90, x91⟩ : T_api_Client) _ _ hx90 (r130, r131, r132, r133) hr134) (args1 rfl)) rfl ?_
 rintro _ M135 _ hle136 ⟨_, ⟨vq137_4, vq139_10, cq139_10, rfl, rfl, hq137_4, hq139_10⟩, rfl⟩
 have hx90 := hx90.mono hle136
 have h3_10 := h3_10.mono hle136
 have h2_10 := h2_10.mono hle136
 refine WL.a1 ?_
 refine Pm (.tuple #[(.agg #[(.int .i64 r130.Id), (.int .i64 r130.Serial), (.int .i64 r130.Voters), (.int .i64 r130.Node), vq137_4, (.int .i64 r130.Tries)]), (.int .i64 r131), (.agg #[(.int .i64 r132.Client), (.int .i64 r132.Serial), (.int .i64 r132.Kind), (.string r132.Name), (.string r132.Key), (.string r132.Value), (.bool r132.Flag), (.int .i64 r132.Parts), (.int .i64 r132.Replicas), (.int .i64 r132.Part), vq139_10, (.int .i64 r132.Broker), (.int .i64 r132.Epoch), (.string r132.Rack), (.int .i64 r132.Word.Broker), (.int .i64 r132.Word.Epoch), (.int .i64 r132.Word.High), (.bool r132.Word.Fence), (.bool r132.Word.Leave)]), (.bool r133)]) rfl rfl ?_
 refine Pu (.agg #[(.int .i64 r130.Id), (.int .i64 r130.Serial), (.int .i64 r130.Voters), (.int .i64 r130.Node), vq137_4, (.int .i64 r130.Tries)]) (PO.extract rfl rfl) rfl ?_
 refine Pu (.int .i64 r131) (PO.extract rfl rfl) rfl ?_
 refine Pu (.agg #[(.int .i64 r132.Client), (.int .i64 r132.Serial), (.int .i64 r132.Kind), (.string r132.Name), (.string r132.Key), (.string r132.Value), (.bool r132.Flag), (.int .i64 r132.Parts), (.int .i64 r132.Replicas), (.int .i64 r132.Part), vq139_10, (.int .i64 r132.Broker), (.int .i64 r132.Epoch), (.string r132.Rack), (.int .i64 r132.Word.Broker), (.int .i64 r132.Word.Epoch), (.int .i64 r132.Word.High), (.bool r132.Word.Fence), (.bool r132.Word.Leave)]) (PO.extract rfl rfl) rfl ?_
 refine Pu (.bool r133) (PO.extract rfl rfl) rfl ?_
 refine WL.eff (EO.alloc ze24 rfl) rfl ?_
 rintro _ _ _ - ⟨rfl, g141, rfl, rfl⟩
 refine WL.eff (EO.alloc ze29 rfl) rfl ?_
 rintro _ _ _ - ⟨rfl, g142, rfl, rfl⟩
 refine WL.f1 ?_
 refine WL.eff (EO.storeL (v := (.agg #[(.int .i64 r130.Id), (.int .i64 r130.Serial), (.int .i64 r130.Voters), (.int .i64 r130.Node), vq137_4, (.int .i64 r130.Tries)])) (vl := [(.int .i64 r130.Id), (.int .i64 r130.Serial), (.int .i64 r130.Voters), (.int .i64 r130.Node), vq137_4, (.int .i64 r130.Tries)]) (arr' := [(.int .i64 r130.Id), (.int .i64 r130.Serial), (.int .i64 r130.Voters), (.int .i64 r130.Node), vq137_4, (.int .i64 r130.Tries)]) rfl sz24 rfl rfl (onesOf (Ones.cons rfl (Ones.cons rfl (Ones.cons rfl (Ones.cons rfl (Ones.cons (RS.one hq137_4) (Ones.cons rfl Ones.nil))))))) rfl rfl rfl) rfl ?_
 rintro _ _ _ - ⟨rfl, rfl⟩
 refine Pa (.int .i64 r131) rfl rfl ?_
 refine WL.f1 ?_
 refine WL.eff (EO.storeL (v := (.agg #[(.int .i64 r132.Client), (.int .i64 r132.Serial), (.int .i64 r132.Kind), (.string r132.Name), (.string r132.Key), (.string r132.Value), (.bool r132.Flag), (.int .i64 r132.Parts), (.int .i64 r132.Replicas), (.int .i64 r132.Part), vq139_10, (.int .i64 r132.Broker), (.int .i64 r132.Epoch), (.string r132.Rack), (.int .i64 r132.Word.Broker), (.int .i64 r132.Word.Epoch), (.int .i64 r132.Word.High), (.bool r132.Word.Fence), (.bool r132.Word.Leave)])) (vl := [(.int .i64 r132.Client), (.int .i64 r132.Serial), (.int .i64 r132.Kind), (.string r132.Name), (.string r132.Key), (.string r132.Value), (.bool r132.Flag), (.int .i64 r132.Parts), (.int .i64 r132.Replicas), (.int .i64 r132.Part), vq139_10, (.int .i64 r132.Broker), (.int .i64 r132.Epoch), (.string r132.Rack), (.int .i64 r132.Word.Broker), (.int .i64 r132.Word.Epoch), (.int .i64 r132.Word.High), (.bool r132.Word.Fence), (.bool r132.Word.Leave)]) (arr' := [(.int .i64 r132.Client), (.int .i64 r132.Serial), (.int .i64 r132.Kind), (.string r132.Name), (.string r132.Key), (.string r132.Value), (.bool r132.Flag), (.int .i64 r132.Parts), (.int .i64 r132.Replicas), (.int .i64 r132.Part), vq139_10, (.int .i64 r132.Broker), (.int .i64 r132.Epoch), (.string r132.Rack), (.int .i64 r132.Word.Broker), (.int .i64 r132.Word.Epoch), (.int .i64 r132.Word.High), (.bool r132.Word.Fence), (.bool r132.Word.Leave)]) rfl sz29 rfl rfl (onesOf (Ones.cons rfl (Ones.cons rfl (Ones.cons rfl (Ones.cons rfl (Ones.cons rfl (Ones.cons rfl (Ones.cons rfl (Ones.cons rfl (Ones.cons rfl (Ones.cons rfl (Ones.cons (OwnS.one hq139_10) (Ones.cons rfl (Ones.cons rfl (Ones.cons rfl (Ones.cons rfl (Ones.cons rfl (Ones.cons rfl (Ones.cons rfl (Ones.cons rfl Ones.nil)))))))))))))))))))) rfl rfl (by kernel_rfl)) rfl ?_
 rintro _ _ _ - ⟨rfl, rfl⟩
 refine Pa (.bool r133) rfl rfl ?_
 refine Ns ?_
 refine Pu (.agg #[(.int .i64 r130.Id), (.int .i64 r130.Serial), (.int .i64 r130.Voters), (.int .i64 r130.Node), vq137_4, (.int .i64 r130.Tries)]) (PO.loadBA (cs := [(.int .i64 r130.Id), (.int .i64 r130.Serial), (.int .i64 r130.Voters), (.int .i64 r130.Node), vq137_4, (.int .i64 r130.Tries)]) 1 ag24 sz24 rfl rfl rfl) rfl ?_
 refine WL.f4 ?_
 refine WL.eff (EO.storeL (v := (.agg #[(.int .i64 r130.Id), (.int .i64 r130.Serial), (.int .i64 r130.Voters), (.int .i64 r130.Node), vq137_4, (.int .i64 r130.Tries)])) (vl := [(.int .i64 r130.Id), (.int .i64 r130.Serial), (.int .i64 r130.Voters), (.int .i64 r130.Node), vq137_4, (.int .i64 r130.Tries)]) (arr' := [(.int .i64 r130.Id), (.int .i64 r130.Serial), (.int .i64 r130.Voters), (.int .i64 r130.Node), vq137_4, (.int .i64 r130.Tries)]) rfl sz24 hs83_10 rfl (onesOf (Ones.cons rfl (Ones.cons rfl (Ones.cons rfl (Ones.cons rfl (Ones.cons (RS.one hq137_4) (Ones.cons rfl Ones.nil))))))) rfl rfl rfl) rfl ?_
 rintro _ _ _ - ⟨rfl, rfl⟩
 refine Nt ?_
 refine WC.seq ?_
 refine Sr ?_
 refine Pm (.bool r133) rfl rfl ?_
 refine Pu (.bool (!r133)) (PO.not rfl) rfl ?_
 refine Nt ?_
 refine WC.cond (b := !r133) rfl (fun hb143 => ?_) (fun hb143 => ?_)
 have h := ite_t hb143 h
 refine WC.exit ?_
 refine WQ.thenE ?_
 refine WQ.blockM rfl ?_
 refine WQ.thenE ?_
 refine WQ.leaveE (Sum.inl (x84, x92, x93, x94, x95, x96, x97, x98, x99, r130.Id, r130.Serial, r130.Voters, r130.Node, r130.Open, r130.Tries)) (Option.some.inj h).symm (fun heq83 => ?_)
 subst heq83
 have h := elimL hK83
 refine WQ.blockH ?_
 refine WQ.f1 ?_
 refine WQ.drop ?_
 refine WQ.f1 ?_
 refine WQ.drop ?_
 refine WQ.f1 ?_
 refine WQ.drop ?_
 refine WQ.f3 ?_
 refine WQ.f3 ?_
 refine WQ.f2 ?_
 refine WQ.f3 ?_
 refine WQ.thenFE h ?_
 exact ⟨vq137_4, (hle83.trans hle136), rfl, hs83_7, hs83_9, hs83_10, hs83_13, hs83_14, hq137_4⟩
 have h := ite_f hb143 h
 refine WC.skip ?_
 refine WQ.thenC ?_
 refine WC.seq ?_
 obtain ⟨x144, hj145, h⟩ := bnd h
 refine WC.joinF (fun (x144 : Bool) ρ' M' H' => M135.le M' ∧ [(g49, .cells #[(.int .i64 r130.Id), (.int .i64 r130.Serial), (.int .i64 r130.Voters), (.int .i64 r130.Node), vq137_4, (.int .i64 r130.Tries)] 24 (0, 0))] :: [(g142, .cells #[(.int .i64 r132.Client), (.int .i64 r132.Serial), (.int .i64 r132.Kind), (.string r132.Name), (.string r132.Key), (.string r132.Value), (.bool r132.Flag), (.int .i64 r132.Parts), (.int .i64 r132.Replicas), (.int .i64 r132.Part), vq139_10, (.int .i64 r132.Broker), (.int .i64 r132.Epoch), (.string r132.Rack), (.int .i64 r132.Word.Broker), (.int .i64 r132.Word.Epoch), (.int .i64 r132.Word.High), (.bool r132.Word.Fence), (.bool r132.Word.Leave)] 29 (0, 0))] :: [(g141, .cells #[(.int .i64 r130.Id), (.int .i64 r130.Serial), (.int .i64 r130.Voters), (.int .i64 r130.Node), vq137_4, (.int .i64 r130.Tries)] 24 (0, 0))] :: [(g66, .cells #[(.int .i64 x92), (.int .i64 x93), (.int .i64 x94), (.int .i64 x95), (.int .i64 x96), (.int .i64 x97), (.int .i64 x98), (.int .i64 x99)] 52 (0, 0))] :: [(g22, .cells #[(.int .i64 a3.Client), (.int .i64 a3.Serial), (.int .i64 a3.Kind), (.string a3.Name), (.string a3.Key), (.string a3.Value), (.bool a3.Flag), (.int .i64 a3.Parts), (.int .i64 a3.Replicas), (.int .i64 a3.Part), v3_10, (.int .i64 a3.Broker), (.int .i64 a3.Epoch), (.string a3.Rack), (.int .i64 a3.Word.Broker), (.int .i64 a3.Word.Epoch), (.int .i64 a3.Word.High), (.bool a3.Word.Fence), (.bool a3.Word.Leave)] 29 (0, 0))] :: [(g21, .cells #[(.int .i64 a2.Client), (.int .i64 a2.Serial), (.int .i64 a2.Kind), (.string a2.Name), (.string a2.Key), (.string a2.Value), (.bool a2.Flag), (.int .i64 a2.Parts), (.int .i64 a2.Replicas), (.int .i64 a2.Part), v2_10, (.int .i64 a2.Broker), (.int .i64 a2.Epoch), (.string a2.Rack), (.int .i64 a2.Word.Broker), (.int .i64 a2.Word.Epoch), (.int .i64 a2.Word.High), (.bool a2.Word.Fence), (.bool a2.Word.Leave)] 29 (0, 0))] :: cq139_10 :: F = H' ∧ ρ' 6 = (.pointer (some ⟨g21, 0, none⟩)) ∧ ρ' 7 = (.pointer (some ⟨g22, 0, none⟩)) ∧ ρ' 9 = (.int .i64 (IntKind.i64.wrap ((1 : Int) + ((IntKind.i64.wrap a1).tmod (7 : Int))))) ∧ ρ' 10 = (.pointer (some ⟨g49, 0, none⟩)) ∧ ρ' 13 = (.pointer (some ⟨g66, 0, none⟩)) ∧ ρ' 14 = (.int .i64 x84) ∧ ρ' 15 = (.int .i64 x85) ∧ ρ' 17 = (.int .i64 r131) ∧ ρ' 87 = (.bool x144)) x144 ?_ ?_
 have h3145 := h
 have h := hj145
 refine WC.region ?_
 refine Pm (.int .i64 r131) rfl rfl ?_
 refine Pu (.bool (decide (r131 < (1 : Int)))) (PO.lss rfl rfl) rfl ?_
 refine Pm (.bool (decide (r131 < (1 : Int)))) rfl rfl ?_
 rcases Bool.eq_false_or_eq_true (decide (r131 < (1 : Int))) with hb146 | hb146
 have h := ite_t hb146 h
 iterate 3 refine Of 71 rfl rfl hb146 rfl ?_
 refine Pu (.bool true) (PO.pickT rfl hb146 rfl) rfl ?_
 refine Pm (.bool true) rfl rfl ?_
 iterate 3 refine Of 76 rfl rfl rfl rfl ?_
 refine Pu (.bool true) (PO.pickT rfl rfl rfl) rfl ?_
 refine Pm (.bool true) rfl rfl ?_
 iterate 5 refine Of 81 rfl rfl rfl rfl ?_
 refine Pu (.bool true) (PO.pickT rfl rfl rfl) rfl ?_
 refine WL.nil ?_
 refine WQ.f3 ?_
 refine WQ.f6 ?_
 refine WQ.f6 ?_
 refine WQ.f6 ?_
 refine WQ.f6 ?_
 refine WQ.f6 ?_
 refine WQ.f6 ?_
 obtain rfl := Option.some.inj h
 refine WQ.thenJ ?_
 exact ⟨(IM.le.refl _), rfl, hs83_6, hs83_7, hs83_9, hs83_10, hs83_13, hs83_14, hs83_15, rfl, rfl⟩
 have h := ite_f hb146 h
 refine On 71 rfl rfl hb146 ?_
 refine Pm (.int .i64 r131) rfl rfl ?_
 refine On 71 rfl rfl hb146 ?_
 refine Pm (.int .i64 (IntKind.i64.wrap ((1 : Int) + ((IntKind.i64.wrap a1).tmod (7 : Int))))) hs83_9 rfl ?_
 refine On 71 rfl rfl hb146 ?_
 refine Pu (.bool (decide ((IntKind.i64.wrap ((1 : Int) + ((IntKind.i64.wrap a1).tmod (7 : Int)))) < r131))) (PO.gtr rfl rfl) rfl ?_
 refine Pu (.bool (decide ((IntKind.i64.wrap ((1 : Int) + ((IntKind.i64.wrap a1).tmod (7 : Int)))) < r131))) (PO.pickF rfl hb146 rfl) rfl ?_
 refine Pm (.bool (decide ((IntKind.i64.wrap ((1 : Int) + ((IntKind.i64.wrap a1).tmod (7 : Int)))) < r131))) rfl rfl ?_
 rcases Bool.eq_false_or_eq_true (decide ((IntKind.i64.wrap ((1 : Int) + ((IntKind.i64.wrap a1).tmod (7 : Int)))) < r131)) with hb147 | hb147
 have h := ite_t hb147 h
 iterate 3 refine Of 76 rfl rfl hb147 rfl ?_
 refine Pu (.bool true) (PO.pickT rfl hb147 rfl) rfl ?_
 refine Pm (.bool true) rfl rfl ?_
 iterate 5 refine Of 81 rfl rfl rfl rfl ?_
 refine Pu (.bool true) (PO.pickT rfl rfl rfl) rfl ?_
 refine WL.nil ?_
 refine WQ.f3 ?_
 refine WQ.f6 ?_
 refine WQ.f6 ?_
 refine WQ.f6 ?_
 refine WQ.f6 ?_
 refine WQ.f6 ?_
 refine WQ.f6 ?_
 obtain rfl := Option.some.inj h
 refine WQ.thenJ ?_
 exact ⟨(IM.le.refl _), rfl, hs83_6, hs83_7, hs83_9, hs83_10, hs83_13, hs83_14, hs83_15, rfl, rfl⟩
 have h := ite_f hb147 h
 refine On 76 rfl rfl hb147 ?_
 refine Pu (.pointer (some ⟨g142, 1, none⟩)) (PO.fieldAddr fo29_1 rfl rfl) rfl ?_
 refine On 76 rfl rfl hb147 ?_
 refine Pu (.int .i64 r132.Serial) (PO.loadB 1 pl3 rfl rfl rfl) rfl ?_
 refine On 76 rfl rfl hb147 ?_
 refine Pu (.bool (decide (r132.Serial ≠ (1 : Int)))) (PO.neq rfl rfl) rfl ?_
 refine Pu (.bool (decide (r132.Serial ≠ (1 : Int)))) (PO.pickF rfl hb147 rfl) rfl ?_
 refine Pm (.bool (decide (r132.Serial ≠ (1 : Int)))) rfl rfl ?_
 rcases Bool.eq_false_or_eq_true (decide (r132.Serial ≠ (1 : Int))) with hb148 | hb148
 have h := ite_t hb148 h
 iterate 5 refine Of 81 rfl rfl hb148 rfl ?_
 refine Pu (.bool true) (PO.pickT rfl hb148 rfl) rfl ?_
 refine WL.nil ?_
 refine WQ.f3 ?_
 refine WQ.f6 ?_
 refine WQ.f6 ?_
 refine WQ.f6 ?_
 refine WQ.f6 ?_
 refine WQ.f6 ?_
 refine WQ.f6 ?_
 obtain rfl := Option.some.inj h
 refine WQ.thenJ ?_
 exact ⟨(IM.le.refl _), rfl, hs83_6, hs83_7, hs83_9, hs83_10, hs83_13, hs83_14, hs83_15, rfl, rfl⟩
 have h := ite_f hb148 h
 refine On 81 rfl rfl hb148 ?_
 refine Pu (.pointer (some ⟨g142, 2, none⟩)) (PO.fieldAddr fo29_2 rfl rfl) rfl ?_
 refine On 81 rfl rfl hb148 ?_
 refine Pu (.int .i64 r132.Kind) (PO.loadB 1 pl3 rfl rfl rfl) rfl ?_
 refine On 81 rfl rfl hb148 ?_
 refine Pu (.pointer (some ⟨g21, 2, none⟩)) (PO.fieldAddr fo29_2 hs83_6 rfl) rfl ?_
 refine On 81 rfl rfl hb148 ?_
 refine Pu (.int .i64 a2.Kind) (PO.loadB 6 pl3 rfl rfl rfl) rfl ?_
 refine On 81 rfl rfl hb148 ?_
 refine Pu (.bool (decide (r132.Kind ≠ a2.Kind))) (PO.neq rfl rfl) rfl ?_
 refine Pu (.bool (decide (r132.Kind ≠ a2.Kind))) (PO.pickF rfl hb148 rfl) rfl ?_
 refine WL.nil ?_
 refine WQ.f3 ?_
 refine WQ.f6 ?_
 refine WQ.f6 ?_
 refine WQ.f6 ?_
 refine WQ.f6 ?_
 refine WQ.f6 ?_
 refine WQ.f6 ?_
 obtain rfl := Option.some.inj h
 refine WQ.thenJ ?_
 exact ⟨(IM.le.refl _), rfl, hs83_6, hs83_7, hs83_9, hs83_10, hs83_13, hs83_14, hs83_15, rfl, rfl⟩
 rintro ρ145 M145 H145 ⟨hle145, rfl, hs145_6, hs145_7, hs145_9, hs145_10, hs145_13, hs145_14, hs145_15, hs145_17, hs145_87⟩
 have hq137_4 := hq137_4.mono hle145
 have hq139_10 := hq139_10.mono hle145
 have h3_10 := h3_10.mono hle145
 have h2_10 := h2_10.mono hle145
 refine WC.cond (b := x144) hs145_87 (fun hb149 => ?_) (fun hb149 => ?_)
 have h := ite_t hb149 h
 refine Sr ?_
 refine Pa (.bool false) rfl rfl ?_
 refine Nt ?_
 refine WC.ret ?_
 refine WQ.thenR ?_
 refine WQ.blockR ?_
 refine WQ.thenR ?_
 refine WQ.leaveR (Sum.inr (x92, x93, x94, x95, x96, x97, x98, x99, r130.Id, r130.Serial, r130.Voters, r130.Node, r130.Open, r130.Tries)) (Option.some.inj h).symm (fun heq83 => ?_)
 subst heq83
 have h := (elimR hK83)
 refine WQ.blockR ?_
 refine WQ.thenR ?_
 have h := KK.early h h382
 refine WQ.drop ?_
 refine WQ.drop ?_
 refine WQ.drop ?_
 refine WQ.drop ?_
 refine WQ.drop ?_
 refine WQ.drop ?_
 refine WQ.drop ?_
 exact WQ.returnsF h [] rfl (results1 rfl rfl) ((((((hle24.trans hle46).trans hle51).trans hle57).trans hle83).trans hle136).trans hle145) ⟨rfl, rfl⟩
 have h := ite_f hb149 h
 refine WC.skip ?_
 refine WQ.thenC ?_
 refine Sr ?_
 refine Pm (.int .i64 r131) hs145_17 rfl ?_
 obtain ⟨hg150, h⟩ := grd_i h
 refine Pu (.pointer (some ⟨g66, (r131).toNat, none⟩)) (PO.indexArr Try.underlying52 sz3 hs145_13 rfl hg150.1 hg150.2 addI1) rfl ?_
 refine Pu (.int .i64 (rd [x92, x93, x94, x95, x96, x97, x98, x99] r131)) (PO.loadArr (xs := [x92, x93, x94, x95, x96, x97, x98, x99]) 3 pl3 rfl rfl rfl hg150.1 hg150.2) rfl ?_
 refine Pu (.int .i64 (IntKind.i64.wrap ((rd [x92, x93, x94, x95, x96, x97, x98, x99] r131) + (1 : Int)))) (PO.add rfl rfl) rfl ?_
 obtain ⟨hg151, h⟩ := grd_i h
 refine Pu (.pointer (some ⟨g66, (r131).toNat, none⟩)) (PO.indexArr Try.underlying52 sz3 hs145_13 rfl hg151.1 hg151.2 addI1) rfl ?_
 refine WL.f3 ?_
 refine WL.eff (EO.storeArr (n := 8) (xs := [x92, x93, x94, x95, x96, x97, x98, x99]) (i := r131) (v := IntKind.i64.wrap ((rd [x92, x93, x94, x95, x96, x97, x98, x99] r131) + (1 : Int))) (arr := [(.int .i64 x92), (.int .i64 x93), (.int .i64 x94), (.int .i64 x95), (.int .i64 x96), (.int .i64 x97), (.int .i64 x98), (.int .i64 x99)]) (arr' := [(.int .i64 (rd ([x92, x93, x94, x95, x96, x97, x98, x99].set (r131).toNat (IntKind.i64.wrap ((rd [x92, x93, x94, x95, x96, x97, x98, x99] r131) + (1 : Int)))) (0 : Int))), (.int .i64 (rd ([x92, x93, x94, x95, x96, x97, x98, x99].set (r131).toNat (IntKind.i64.wrap ((rd [x92, x93, x94, x95, x96, x97, x98, x99] r131) + (1 : Int)))) (1 : Int))), (.int .i64 (rd ([x92, x93, x94, x95, x96, x97, x98, x99].set (r131).toNat (IntKind.i64.wrap ((rd [x92, x93, x94, x95, x96, x97, x98, x99] r131) + (1 : Int)))) (2 : Int))), (.int .i64 (rd ([x92, x93, x94, x95, x96, x97, x98, x99].set (r131).toNat (IntKind.i64.wrap ((rd [x92, x93, x94, x95, x96, x97, x98, x99] r131) + (1 : Int)))) (3 : Int))), (.int .i64 (rd ([x92, x93, x94, x95, x96, x97, x98, x99].set (r131).toNat (IntKind.i64.wrap ((rd [x92, x93, x94, x95, x96, x97, x98, x99] r131) + (1 : Int)))) (4 : Int))), (.int .i64 (rd ([x92, x93, x94, x95, x96, x97, x98, x99].set (r131).toNat (IntKind.i64.wrap ((rd [x92, x93, x94, x95, x96, x97, x98, x99] r131) + (1 : Int)))) (5 : Int))), (.int .i64 (rd ([x92, x93, x94, x95, x96, x97, x98, x99].set (r131).toNat (IntKind.i64.wrap ((rd [x92, x93, x94, x95, x96, x97, x98, x99] r131) + (1 : Int)))) (6 : Int))), (.int .i64 (rd ([x92, x93, x94, x95, x96, x97, x98, x99].set (r131).toNat (IntKind.i64.wrap ((rd [x92, x93, x94, x95, x96, x97, x98, x99] r131) + (1 : Int)))) (7 : Int)))]) sz3 rfl rfl hg151.1 hg151.2 rfl rfl rfl rfl) rfl ?_
 rintro _ _ _ - ⟨rfl, rfl⟩
 refine Ns ?_
 refine Pm (.int .i64 x84) hs145_14 rfl ?_
 refine Pu (.int .i64 (IntKind.i64.wrap (x84 + (1 : Int)))) (PO.add rfl rfl) rfl ?_
 refine Pa (.int .i64 (IntKind.i64.wrap (x84 + (1 : Int)))) rfl rfl ?_
 refine Nt ?_
 refine WC.region ?_
 refine Pu (.agg #[(.int .i64 r130.Id), (.int .i64 r130.Serial), (.int .i64 r130.Voters), (.int .i64 r130.Node), vq137_4, (.int .i64 r130.Tries)]) (PO.loadBA (cs := [(.int .i64 r130.Id), (.int .i64 r130.Serial), (.int .i64 r130.Voters), (.int .i64 r130.Node), vq137_4, (.int .i64 r130.Tries)]) 1 ag24 sz24 hs145_10 rfl rfl) rfl ?_
 obtain ⟨r152, hr153, h⟩ := bnd h
 refine WL.eff (EO.call0 co14 (f_client_Lost_ok r130 _ _ hq137_4 r152 hr153) (args1 rfl)) rfl ?_
 rintro _ M154 _ hle155 ⟨_, ⟨vq156_4, rfl, rfl, hq156_4⟩, rfl⟩
 have hq137_4 := hq137_4.mono hle155
 have hq139_10 := hq139_10.mono hle155
 have h3_10 := h3_10.mono hle155
 have h2_10 := h2_10.mono hle155
 refine WL.a0 ?_
 refine WL.f1 ?_
 refine WL.eff (EO.storeL (v := (.agg #[(.int .i64 r152.Id), (.int .i64 r152.Serial), (.int .i64 r152.Voters), (.int .i64 r152.Node), vq156_4, (.int .i64 r152.Tries)])) (vl := [(.int .i64 r152.Id), (.int .i64 r152.Serial), (.int .i64 r152.Voters), (.int .i64 r152.Node), vq156_4, (.int .i64 r152.Tries)]) (arr' := [(.int .i64 r152.Id), (.int .i64 r152.Serial), (.int .i64 r152.Voters), (.int .i64 r152.Node), vq156_4, (.int .i64 r152.Tries)]) rfl sz24 hs145_10 rfl (onesOf (Ones.cons rfl (Ones.cons rfl (Ones.cons rfl (Ones.cons rfl (Ones.cons (RS.one hq156_4) (Ones.cons rfl Ones.nil))))))) rfl rfl rfl) rfl ?_
 rintro _ _ _ - ⟨rfl, rfl⟩
 refine WL.nil ?_
 refine WQ.blockN ?_
 refine WQ.thenC ?_
 refine WC.region ?_
 refine Pm (.int .i64 x85) hs145_15 rfl ?_
 refine Pu (.int .i64 (IntKind.i64.wrap (x85 + (1 : Int)))) (PO.add rfl rfl) rfl ?_
 refine Pa (.int .i64 (IntKind.i64.wrap (x85 + (1 : Int)))) rfl rfl ?_
 refine WL.nil ?_
 refine WQ.f2 ?_
 refine WQ.drop ?_
 refine WQ.f2 ?_
 refine WQ.drop ?_
 refine WQ.f4 ?_
 refine WQ.drop ?_
 refine WQ.f3 ?_
 refine WQ.f3 ?_
 refine WQ.f2 ?_
 refine WQ.f3 ?_
 refine WQ.again (IntKind.i64.wrap (x84 + (1 : Int)), IntKind.i64.wrap (x85 + (1 : Int)), r152.Id, r152.Serial, r152.Voters, r152.Node, r152.Open, r152.Tries, rd ([x92, x93, x94, x95, x96, x97, x98, x99].set (r131).toNat (IntKind.i64.wrap ((rd [x92, x93, x94, x95, x96, x97, x98, x99] r131) + (1 : Int)))) (0 : Int), rd ([x92, x93, x94, x95, x96, x97, x98, x99].set (r131).toNat (IntKind.i64.wrap ((rd [x92, x93, x94, x95, x96, x97, x98, x99] r131) + (1 : Int)))) (1 : Int), rd ([x92, x93, x94, x95, x96, x97, x98, x99].set (r131).toNat (IntKind.i64.wrap ((rd [x92, x93, x94, x95, x96, x97, x98, x99] r131) + (1 : Int)))) (2 : Int), rd ([x92, x93, x94, x95, x96, x97, x98, x99].set (r131).toNat (IntKind.i64.wrap ((rd [x92, x93, x94, x95, x96, x97, x98, x99] r131) + (1 : Int)))) (3 : Int), rd ([x92, x93, x94, x95, x96, x97, x98, x99].set (r131).toNat (IntKind.i64.wrap ((rd [x92, x93, x94, x95, x96, x97, x98, x99] r131) + (1 : Int)))) (4 : Int), rd ([x92, x93, x94, x95, x96, x97, x98, x99].set (r131).toNat (IntKind.i64.wrap ((rd [x92, x93, x94, x95, x96, x97, x98, x99] r131) + (1 : Int)))) (5 : Int), rd ([x92, x93, x94, x95, x96, x97, x98, x99].set (r131).toNat (IntKind.i64.wrap ((rd [x92, x93, x94, x95, x96, x97, x98, x99] r131) + (1 : Int)))) (6 : Int), rd ([x92, x93, x94, x95, x96, x97, x98, x99].set (r131).toNat (IntKind.i64.wrap ((rd [x92, x93, x94, x95, x96, x97, x98, x99] r131) + (1 : Int)))) (7 : Int)) (Option.some.inj h).symm ?_
 exact ⟨vq156_4, (((hle83.trans hle136).trans hle145).trans hle155), rfl, hs145_6, hs145_7, hs145_9, hs145_10, hs145_13, rfl, rfl, hq156_4⟩
 have h := ite_f hb129 h
 refine WC.exit ?_
 refine WQ.thenE ?_
 refine WQ.leaveE (Sum.inl (x84, x92, x93, x94, x95, x96, x97, x98, x99, x86, x87, x88, x89, x90, x91)) (Option.some.inj h).symm (fun heq83 => ?_)
 subst heq83
 have h := elimL hK83
 refine WQ.blockH ?_
 refine WQ.thenFE h ?_
 exact ⟨vx90, hle83, rfl, hs83_7, hs83_9, hs83_10, hs83_13, hs83_14, hx90⟩
 rintro ⟨x67, x68, x69, x70, x71, x72, x73, x74, x75, x76, x77, x78, x79, x80, x81⟩ ρ82 M82 H82 rfl ⟨vx80, hle82, rfl, hs82_7, hs82_9, hs82_10, hs82_13, hs82_14, hx80⟩
 have h3_10 := h3_10.mono hle82
 have h2_10 := h2_10.mono hle82
 obtain ⟨j157, hj157, h⟩ := bnd h
 refine WC.joinE (fun (_ : Unit) ρ' M' H' => M82.le M' ∧ [(g66, .cells #[(.int .i64 x68), (.int .i64 x69), (.int .i64 x70), (.int .i64 x71), (.int .i64 x72), (.int .i64 x73), (.int .i64 x74), (.int .i64 x75)] 52 (0, 0))] :: [(g49, .cells #[(.int .i64 x76), (.int .i64 x77), (.int .i64 x78), (.int .i64 x79), vx80, (.int .i64 x81)] 24 (0, 0))] :: [(g22, .cells #[(.int .i64 a3.Client), (.int .i64 a3.Serial), (.int .i64 a3.Kind), (.string a3.Name), (.string a3.Key), (.string a3.Value), (.bool a3.Flag), (.int .i64 a3.Parts), (.int .i64 a3.Replicas), (.int .i64 a3.Part), v3_10, (.int .i64 a3.Broker), (.int .i64 a3.Epoch), (.string a3.Rack), (.int .i64 a3.Word.Broker), (.int .i64 a3.Word.Epoch), (.int .i64 a3.Word.High), (.bool a3.Word.Fence), (.bool a3.Word.Leave)] 29 (0, 0))] :: [(g21, .cells #[(.int .i64 a2.Client), (.int .i64 a2.Serial), (.int .i64 a2.Kind), (.string a2.Name), (.string a2.Key), (.string a2.Value), (.bool a2.Flag), (.int .i64 a2.Parts), (.int .i64 a2.Replicas), (.int .i64 a2.Part), v2_10, (.int .i64 a2.Broker), (.int .i64 a2.Epoch), (.string a2.Rack), (.int .i64 a2.Word.Broker), (.int .i64 a2.Word.Epoch), (.int .i64 a2.Word.High), (.bool a2.Word.Fence), (.bool a2.Word.Leave)] 29 (0, 0))] :: F = H' ∧ ρ' 7 = (.pointer (some ⟨g22, 0, none⟩)) ∧ ρ' 10 = (.pointer (some ⟨g49, 0, none⟩)) ∧ ρ' 14 = (.int .i64 x67)) j157 ?_ ?_
 have h3157 := h
 have h := hj157
 refine Sr ?_
 refine Pa (.int .i64 (1 : Int)) rfl rfl ?_
 refine Nt ?_
 refine WC.block ?_
 obtain ⟨e158, he158, hK158⟩ := bnd h
 clear h
 refine WC.loop he158 (fun (x159 : Int) ρ' M' H' => M82.le M' ∧ [(g66, .cells #[(.int .i64 x68), (.int .i64 x69), (.int .i64 x70), (.int .i64 x71), (.int .i64 x72), (.int .i64 x73), (.int .i64 x74), (.int .i64 x75)] 52 (0, 0))] :: [(g49, .cells #[(.int .i64 x76), (.int .i64 x77), (.int .i64 x78), (.int .i64 x79), vx80, (.int .i64 x81)] 24 (0, 0))] :: [(g22, .cells #[(.int .i64 a3.Client), (.int .i64 a3.Serial), (.int .i64 a3.Kind), (.string a3.Name), (.string a3.Key), (.string a3.Value), (.bool a3.Flag), (.int .i64 a3.Parts), (.int .i64 a3.Replicas), (.int .i64 a3.Part), v3_10, (.int .i64 a3.Broker), (.int .i64 a3.Epoch), (.string a3.Rack), (.int .i64 a3.Word.Broker), (.int .i64 a3.Word.Epoch), (.int .i64 a3.Word.High), (.bool a3.Word.Fence), (.bool a3.Word.Leave)] 29 (0, 0))] :: [(g21, .cells #[(.int .i64 a2.Client), (.int .i64 a2.Serial), (.int .i64 a2.Kind), (.string a2.Name), (.string a2.Key), (.string a2.Value), (.bool a2.Flag), (.int .i64 a2.Parts), (.int .i64 a2.Replicas), (.int .i64 a2.Part), v2_10, (.int .i64 a2.Broker), (.int .i64 a2.Epoch), (.string a2.Rack), (.int .i64 a2.Word.Broker), (.int .i64 a2.Word.Epoch), (.int .i64 a2.Word.High), (.bool a2.Word.Fence), (.bool a2.Word.Leave)] 29 (0, 0))] :: F = H' ∧ ρ' 7 = (.pointer (some ⟨g22, 0, none⟩)) ∧ ρ' 9 = (.int .i64 (IntKind.i64.wrap ((1 : Int) + ((IntKind.i64.wrap a1).tmod (7 : Int))))) ∧ ρ' 10 = (.pointer (some ⟨g49, 0, none⟩)) ∧ ρ' 13 = (.pointer (some ⟨g66, 0, none⟩)) ∧ ρ' 14 = (.int .i64 x67) ∧ ρ' 20 = (.int .i64 x159)) ?_ ?_
 exact ⟨(IM.le.refl _), rfl, hs82_7, hs82_9, hs82_10, hs82_13, hs82_14, rfl⟩
 rintro x159 o158 ρ158 M158 H158 h ⟨hle158, rfl, hs158_7, hs158_9, hs158_10, hs158_13, hs158_14, hs158_20⟩
 unfold f_law28_ClientEnds_l1 at h
 have hx80 := hx80.mono hle158
 have h3_10 := h3_10.mono hle158
 have h2_10 := h2_10.mono hle158
 refine WC.seq ?_
 refine Sr ?_
 refine Pm (.int .i64 x159) hs158_20 rfl ?_
 refine Pm (.int .i64 (IntKind.i64.wrap ((1 : Int) + ((IntKind.i64.wrap a1).tmod (7 : Int))))) hs158_9 rfl ?_
 refine Pu (.bool (decide (x159 ≤ (IntKind.i64.wrap ((1 : Int) + ((IntKind.i64.wrap a1).tmod (7 : Int))))))) (PO.leq rfl rfl) rfl ?_
 refine Nt ?_
 refine WC.cond (b := decide (x159 ≤ (IntKind.i64.wrap ((1 : Int) + ((IntKind.i64.wrap a1).tmod (7 : Int)))))) rfl (fun hb160 => ?_) (fun hb160 => ?_)
 have h := ite_t hb160 h
 refine WC.skip ?_
 refine WQ.thenC ?_
 refine WC.seq ?_
 refine WC.block ?_
 refine WC.seq ?_
 refine WC.draw [0, 1, 3, 0, 8, 31] (.pure 0 (.pure 1 (.pure 2 (.pure 3 (.pure 4 (.pure 5 .done)))))) mixed (by kernel_rfl) ?_
 refine Tp (.int .i64 x159) rfl (PO.move hs158_20) rfl ?_
 obtain ⟨hg161, h⟩ := grd_i h
 refine Tp (.pointer (some ⟨g66, (x159).toNat, none⟩)) rfl (PO.indexArr Try.underlying52 sz3 hs158_13 rfl hg161.1 hg161.2 addI1) rfl ?_
 refine Tp (.int .i64 (rd [x68, x69, x70, x71, x72, x73, x74, x75] x159)) rfl (PO.loadArr (xs := [x68, x69, x70, x71, x72, x73, x74, x75]) 0 pl3 rfl rfl rfl hg161.1 hg161.2) rfl ?_
 refine Tp (.int .i64 (IntKind.i64.wrap ((1 : Int) + ((IntKind.i64.wrap a1).tmod (7 : Int))))) rfl (PO.move hs158_9) rfl ?_
 obtain ⟨hg162, h⟩ := grd_i h
 refine Tp (.int .i64 (IntKind.i64.wrap ((50 : Int).tdiv (IntKind.i64.wrap ((1 : Int) + ((IntKind.i64.wrap a1).tmod (7 : Int))))))) rfl (PO.quo rfl rfl hg162) rfl ?_
 refine Tp (.bool (decide ((rd [x68, x69, x70, x71, x72, x73, x74, x75] x159) < (IntKind.i64.wrap ((50 : Int).tdiv (IntKind.i64.wrap ((1 : Int) + ((IntKind.i64.wrap a1).tmod (7 : Int))))))))) rfl (PO.lss rfl rfl) rfl ?_
 refine WT.fin ?_
 refine WQ.thenC ?_
 refine WC.cond (b := decide ((rd [x68, x69, x70, x71, x72, x73, x74, x75] x159) < (IntKind.i64.wrap ((50 : Int).tdiv (IntKind.i64.wrap ((1 : Int) + ((IntKind.i64.wrap a1).tmod (7 : Int)))))))) rfl (fun hb163 => ?_) (fun hb163 => ?_)
 have h := ite_t hb163 h
 refine Sr ?_
 refine Pa (.bool false) rfl rfl ?_
 refine Nt ?_
 refine WC.ret ?_
 refine WQ.blockR ?_
 refine WQ.thenR ?_
 refine WQ.leaveR (Sum.inr ()) (Option.some.inj h).symm (fun heq158 => ?_)
 subst heq158
 have h := (elimR hK158)
 refine WQ.blockR ?_
 refine WQ.thenR ?_
 have h := KK.early h h3157
 refine WQ.drop ?_
 refine WQ.drop ?_
 refine WQ.drop ?_
 refine WQ.drop ?_
 exact WQ.returnsF h [] rfl (results1 rfl rfl) (((((hle24.trans hle46).trans hle51).trans hle57).trans hle82).trans hle158) ⟨rfl, rfl⟩
 have h := ite_f hb163 h
 refine WC.skip ?_
 refine WQ.blockN ?_
 refine WQ.thenC ?_
 refine WC.region ?_
 refine Pm (.int .i64 x159) hs158_20 rfl ?_
 refine Pu (.int .i64 (IntKind.i64.wrap (x159 + (1 : Int)))) (PO.add rfl rfl) rfl ?_
 refine Pa (.int .i64 (IntKind.i64.wrap (x159 + (1 : Int)))) rfl rfl ?_
 refine WL.nil ?_
 refine WQ.again (IntKind.i64.wrap (x159 + (1 : Int))) (Option.some.inj h).symm ?_
 exact ⟨hle158, rfl, hs158_7, hs158_9, hs158_10, hs158_13, hs158_14, rfl⟩
 have h := ite_f hb160 h
 refine WC.exit ?_
 refine WQ.thenE ?_
 refine WQ.leaveE (Sum.inl ()) (Option.some.inj h).symm (fun heq158 => ?_)
 subst heq158
 have h := elimL hK158
 refine WQ.blockH ?_
 refine WQ.thenFE h ?_
 exact ⟨hle158, rfl, hs158_7, hs158_10, hs158_14⟩
 rintro _ ρ157 M157 H157 rfl ⟨hle157, rfl, hs157_7, hs157_10, hs157_14⟩
 have hx80 := hx80.mono hle157
 have h3_10 := h3_10.mono hle157
 have h2_10 := h2_10.mono hle157
 refine WC.seq ?_
 obtain ⟨x164, hj165, h⟩ := bnd h
 refine WC.joinF (fun (x164 : Bool) ρ' M' H' => M157.le M' ∧ [(g66, .cells #[(.int .i64 x68), (.int .i64 x69), (.int .i64 x70), (.int .i64 x71), (.int .i64 x72), (.int .i64 x73), (.int .i64 x74), (.int .i64 x75)] 52 (0, 0))] :: [(g49, .cells #[(.int .i64 x76), (.int .i64 x77), (.int .i64 x78), (.int .i64 x79), vx80, (.int .i64 x81)] 24 (0, 0))] :: [(g22, .cells #[(.int .i64 a3.Client), (.int .i64 a3.Serial), (.int .i64 a3.Kind), (.string a3.Name), (.string a3.Key), (.string a3.Value), (.bool a3.Flag), (.int .i64 a3.Parts), (.int .i64 a3.Replicas), (.int .i64 a3.Part), v3_10, (.int .i64 a3.Broker), (.int .i64 a3.Epoch), (.string a3.Rack), (.int .i64 a3.Word.Broker), (.int .i64 a3.Word.Epoch), (.int .i64 a3.Word.High), (.bool a3.Word.Fence), (.bool a3.Word.Leave)] 29 (0, 0))] :: [(g21, .cells #[(.int .i64 a2.Client), (.int .i64 a2.Serial), (.int .i64 a2.Kind), (.string a2.Name), (.string a2.Key), (.string a2.Value), (.bool a2.Flag), (.int .i64 a2.Parts), (.int .i64 a2.Replicas), (.int .i64 a2.Part), v2_10, (.int .i64 a2.Broker), (.int .i64 a2.Epoch), (.string a2.Rack), (.int .i64 a2.Word.Broker), (.int .i64 a2.Word.Epoch), (.int .i64 a2.Word.High), (.bool a2.Word.Fence), (.bool a2.Word.Leave)] 29 (0, 0))] :: F = H' ∧ ρ' 7 = (.pointer (some ⟨g22, 0, none⟩)) ∧ ρ' 10 = (.pointer (some ⟨g49, 0, none⟩)) ∧ ρ' 115 = (.bool x164)) x164 ?_ ?_
 have h3165 := h
 have h := hj165
 refine WC.region ?_
 refine Pm (.int .i64 x67) hs157_14 rfl ?_
 refine Pu (.bool (decide (x67 ≠ (50 : Int)))) (PO.neq rfl rfl) rfl ?_
 refine Pm (.bool (decide (x67 ≠ (50 : Int)))) rfl rfl ?_
 rcases Bool.eq_false_or_eq_true (decide (x67 ≠ (50 : Int))) with hb166 | hb166
 have h := ite_t hb166 h
 iterate 4 refine Of 110 rfl rfl hb166 rfl ?_
 refine Pu (.bool true) (PO.pickT rfl hb166 rfl) rfl ?_
 refine WL.nil ?_
 obtain rfl := Option.some.inj h
 refine WQ.thenJ ?_
 exact ⟨(IM.le.refl _), rfl, hs157_7, hs157_10, rfl⟩
 have h := ite_f hb166 h
 refine On 110 rfl rfl hb166 ?_
 refine Pu (.pointer (some ⟨g49, 4, none⟩)) (PO.fieldAddr fo24_4 hs157_10 rfl) rfl ?_
 refine On 110 rfl rfl hb166 ?_
 refine Pu vx80 (PO.loadB 1 pl22 rfl rfl rfl) rfl ?_
 refine On 110 rfl rfl hb166 ?_
 refine Pu (.int .i64 (x80.length : Int)) (PO.lenS Try.underlying22 rfl hx80.len) rfl ?_
 refine On 110 rfl rfl hb166 ?_
 refine Pu (.bool (decide ((x80.length : Int) ≠ (0 : Int)))) (PO.neq rfl rfl) rfl ?_
 refine Pu (.bool (decide ((x80.length : Int) ≠ (0 : Int)))) (PO.pickF rfl hb166 rfl) rfl ?_
 refine WL.nil ?_
 obtain rfl := Option.some.inj h
 refine WQ.thenJ ?_
 exact ⟨(IM.le.refl _), rfl, hs157_7, hs157_10, rfl⟩
 rintro ρ165 M165 H165 ⟨hle165, rfl, hs165_7, hs165_10, hs165_115⟩
 have hx80 := hx80.mono hle165
 have h3_10 := h3_10.mono hle165
 have h2_10 := h2_10.mono hle165
 refine WC.cond (b := x164) hs165_115 (fun hb167 => ?_) (fun hb167 => ?_)
 have h := ite_t hb167 h
 refine Sr ?_
 refine Pa (.bool false) rfl rfl ?_
 refine Nt ?_
 refine WC.ret ?_
 refine WQ.thenR ?_
 refine WQ.drop ?_
 refine WQ.drop ?_
 refine WQ.drop ?_
 refine WQ.drop ?_
 exact WQ.returnsF h [] rfl (results1 rfl rfl) ((((((hle24.trans hle46).trans hle51).trans hle57).trans hle82).trans hle157).trans hle165) ⟨rfl, rfl⟩
 have h := ite_f hb167 h
 refine WC.skip ?_
 refine WQ.thenC ?_
 refine Sr ?_
 refine Pu (.agg #[(.int .i64 x76), (.int .i64 x77), (.int .i64 x78), (.int .i64 x79), vx80, (.int .i64 x81)]) (PO.loadBA (cs := [(.int .i64 x76), (.int .i64 x77), (.int .i64 x78), (.int .i64 x79), vx80, (.int .i64 x81)]) 1 ag24 sz24 hs165_10 rfl rfl) rfl ?_
 refine Pu (.agg #[(.int .i64 a3.Client), (.int .i64 a3.Serial), (.int .i64 a3.Kind), (.string a3.Name), (.string a3.Key), (.string a3.Value), (.bool a3.Flag), (.int .i64 a3.Parts), (.int .i64 a3.Replicas), (.int .i64 a3.Part), v3_10, (.int .i64 a3.Broker), (.int .i64 a3.Epoch), (.string a3.Rack), (.int .i64 a3.Word.Broker), (.int .i64 a3.Word.Epoch), (.int .i64 a3.Word.High), (.bool a3.Word.Fence), (.bool a3.Word.Leave)]) (PO.loadBA (cs := [(.int .i64 a3.Client), (.int .i64 a3.Serial), (.int .i64 a3.Kind), (.string a3.Name), (.string a3.Key), (.string a3.Value), (.bool a3.Flag), (.int .i64 a3.Parts), (.int .i64 a3.Replicas), (.int .i64 a3.Part), v3_10, (.int .i64 a3.Broker), (.int .i64 a3.Epoch), (.string a3.Rack), (.int .i64 a3.Word.Broker), (.int .i64 a3.Word.Epoch), (.int .i64 a3.Word.High), (.bool a3.Word.Fence), (.bool a3.Word.Leave)]) 2 ag29 sz29 hs165_7 rfl rfl) rfl ?_
 obtain ⟨⟨r168, r169⟩, hr170, h⟩ := bnd h
 refine WL.eff (EO.call0 co10 (f_client_Begin_ok (⟨x76, x77, x78, x79, x80, x81⟩ : T_api_Client) a3 _ _ _ hx80 h3_10 (r168, r169) hr170) (args2 rfl rfl)) rfl ?_
 rintro _ M171 _ hle172 ⟨_, ⟨vq173_4, rfl, rfl, hq173_4⟩, rfl⟩
 have hx80 := hx80.mono hle172
 have h3_10 := h3_10.mono hle172
 have h2_10 := h2_10.mono hle172
 refine WL.a0 ?_
 refine Pm (.tuple #[(.agg #[(.int .i64 r168.Id), (.int .i64 r168.Serial), (.int .i64 r168.Voters), (.int .i64 r168.Node), vq173_4, (.int .i64 r168.Tries)]), (GV r169)]) rfl rfl ?_
 refine Pu (.agg #[(.int .i64 r168.Id), (.int .i64 r168.Serial), (.int .i64 r168.Voters), (.int .i64 r168.Node), vq173_4, (.int .i64 r168.Tries)]) (PO.extract rfl rfl) rfl ?_
 refine Pu (GV r169) (PO.extract rfl rfl) rfl ?_
 refine WL.eff (EO.alloc ze24 rfl) rfl ?_
 rintro _ _ _ - ⟨rfl, g175, rfl, rfl⟩
 refine WL.eff (EO.storeL (v := (.agg #[(.int .i64 r168.Id), (.int .i64 r168.Serial), (.int .i64 r168.Voters), (.int .i64 r168.Node), vq173_4, (.int .i64 r168.Tries)])) (vl := [(.int .i64 r168.Id), (.int .i64 r168.Serial), (.int .i64 r168.Voters), (.int .i64 r168.Node), vq173_4, (.int .i64 r168.Tries)]) (arr' := [(.int .i64 r168.Id), (.int .i64 r168.Serial), (.int .i64 r168.Voters), (.int .i64 r168.Node), vq173_4, (.int .i64 r168.Tries)]) rfl sz24 rfl rfl (onesOf (Ones.cons rfl (Ones.cons rfl (Ones.cons rfl (Ones.cons rfl (Ones.cons (RS.one hq173_4) (Ones.cons rfl Ones.nil))))))) rfl rfl rfl) rfl ?_
 rintro _ _ _ - ⟨rfl, rfl⟩
 refine Pa (GV r169) rfl rfl ?_
 refine Nt ?_
 obtain ⟨x176, hj177, h⟩ := bnd h
 refine WC.joinF (fun (x176 : Bool) ρ' M' H' => M171.le M' ∧ [(g175, .cells #[(.int .i64 r168.Id), (.int .i64 r168.Serial), (.int .i64 r168.Voters), (.int .i64 r168.Node), vq173_4, (.int .i64 r168.Tries)] 24 (0, 0))] :: [(g66, .cells #[(.int .i64 x68), (.int .i64 x69), (.int .i64 x70), (.int .i64 x71), (.int .i64 x72), (.int .i64 x73), (.int .i64 x74), (.int .i64 x75)] 52 (0, 0))] :: [(g49, .cells #[(.int .i64 x76), (.int .i64 x77), (.int .i64 x78), (.int .i64 x79), vx80, (.int .i64 x81)] 24 (0, 0))] :: [(g22, .cells #[(.int .i64 a3.Client), (.int .i64 a3.Serial), (.int .i64 a3.Kind), (.string a3.Name), (.string a3.Key), (.string a3.Value), (.bool a3.Flag), (.int .i64 a3.Parts), (.int .i64 a3.Replicas), (.int .i64 a3.Part), v3_10, (.int .i64 a3.Broker), (.int .i64 a3.Epoch), (.string a3.Rack), (.int .i64 a3.Word.Broker), (.int .i64 a3.Word.Epoch), (.int .i64 a3.Word.High), (.bool a3.Word.Fence), (.bool a3.Word.Leave)] 29 (0, 0))] :: [(g21, .cells #[(.int .i64 a2.Client), (.int .i64 a2.Serial), (.int .i64 a2.Kind), (.string a2.Name), (.string a2.Key), (.string a2.Value), (.bool a2.Flag), (.int .i64 a2.Parts), (.int .i64 a2.Replicas), (.int .i64 a2.Part), v2_10, (.int .i64 a2.Broker), (.int .i64 a2.Epoch), (.string a2.Rack), (.int .i64 a2.Word.Broker), (.int .i64 a2.Word.Epoch), (.int .i64 a2.Word.High), (.bool a2.Word.Fence), (.bool a2.Word.Leave)] 29 (0, 0))] :: F = H' ∧ ρ' 8 = (.bool x176)) x176 ?_ ?_
 have h3177 := h
 have h := hj177
 refine WC.region ?_
 refine Pm (GV r169) rfl rfl ?_
 refine Pu (.bool (!r169.isNil)) (PO.errNotNil Try.underlying40 rfl) rfl ?_
 refine Pm (.bool (!r169.isNil)) rfl rfl ?_
 rcases Bool.eq_false_or_eq_true (!r169.isNil) with hb178 | hb178
 have h := ite_t hb178 h
 iterate 3 refine Of 124 rfl rfl hb178 rfl ?_
 refine Pu (.bool true) (PO.pickT rfl hb178 rfl) rfl ?_
 refine Pm (.bool true) rfl rfl ?_
 refine On 129 rfl rfl rfl ?_
 obtain ⟨r179, hr180, h⟩ := bnd h
 refine WL.eff (EO.call0 co9 (f_law28_works_ok _ r179 hr180) (args0)) rfl ?_
 rintro _ M181 _ hle182 ⟨_, ⟨rfl, rfl⟩, rfl⟩
 have hx80 := hx80.mono hle182
 have h3_10 := h3_10.mono hle182
 have h2_10 := h2_10.mono hle182
 have hq173_4 := hq173_4.mono hle182
 refine WL.a0 ?_
 refine Pu (.bool r179) (PO.pickT rfl rfl rfl) rfl ?_
 refine Pa (.bool r179) rfl rfl ?_
 refine WL.nil ?_
 obtain rfl := Option.some.inj h
 refine WQ.thenJ ?_
 exact ⟨hle182, rfl, rfl⟩
 have h := ite_f hb178 h
 refine On 124 rfl rfl hb178 ?_
 refine Pu (.pointer (some ⟨g175, 1, none⟩)) (PO.fieldAddr fo24_1 rfl rfl) rfl ?_
 refine On 124 rfl rfl hb178 ?_
 refine Pu (.int .i64 r168.Serial) (PO.loadB 0 pl3 rfl rfl rfl) rfl ?_
 refine On 124 rfl rfl hb178 ?_
 refine Pu (.bool (decide (r168.Serial = (2 : Int)))) (PO.eql rfl rfl) rfl ?_
 refine Pu (.bool (decide (r168.Serial = (2 : Int)))) (PO.pickF rfl hb178 rfl) rfl ?_
 refine Pm (.bool (decide (r168.Serial = (2 : Int)))) rfl rfl ?_
 rcases Bool.eq_false_or_eq_true (decide (r168.Serial = (2 : Int))) with hb184 | hb184
 have h := ite_t hb184 h
 refine On 129 rfl rfl hb184 ?_
 obtain ⟨r185, hr186, h⟩ := bnd h
 refine WL.eff (EO.call0 co9 (f_law28_works_ok _ r185 hr186) (args0)) rfl ?_
 rintro _ M187 _ hle188 ⟨_, ⟨rfl, rfl⟩, rfl⟩
 have hx80 := hx80.mono hle188
 have h3_10 := h3_10.mono hle188
 have h2_10 := h2_10.mono hle188
 have hq173_4 := hq173_4.mono hle188
 refine WL.a0 ?_
 refine Pu (.bool r185) (PO.pickT rfl hb184 rfl) rfl ?_
 refine Pa (.bool r185) rfl rfl ?_
 refine WL.nil ?_
 obtain rfl := Option.some.inj h
 refine WQ.thenJ ?_
 exact ⟨hle188, rfl, rfl⟩
 have h := ite_f hb184 h
 refine Of 129 rfl rfl hb184 rfl ?_
 refine Pu (.bool false) (PO.pickF rfl hb184 rfl) rfl ?_
 refine Pa (.bool false) rfl rfl ?_
 refine WL.nil ?_
 obtain rfl := Option.some.inj h
 refine WQ.thenJ ?_
 exact ⟨(IM.le.refl _), rfl, rfl⟩
 rintro ρ177 M177 H177 ⟨hle177, rfl, hs177_8⟩
 have hq173_4 := hq173_4.mono hle177
 have hx80 := hx80.mono hle177
 have h3_10 := h3_10.mono hle177
 have h2_10 := h2_10.mono hle177
 refine WC.ret ?_
 refine WQ.drop ?_
 refine WQ.drop ?_
 refine WQ.drop ?_
 refine WQ.drop ?_
 refine WQ.drop ?_
 exact WQ.returnsF h [] rfl (results1 rfl hs177_8) ((((((((hle24.trans hle46).trans hle51).trans hle57).trans hle82).trans hle157).trans hle165).trans hle172).trans hle177) ⟨rfl, rfl⟩


end Go.Proofs.Ytdlilclopmhiaaa.G
