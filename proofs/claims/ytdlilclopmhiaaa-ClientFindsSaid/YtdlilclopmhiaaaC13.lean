/- Go functions: what they come to, and that they do. Printed by a program of the session (gen). -/
import Derived.Test.YtdlilclopmhiaaaCF
import Derived.Test.YtdlilclopmhiaaaC12
set_option linter.unusedVariables false
set_option linter.unusedSimpArgs false
namespace Go.Proofs.Ytdlilclopmhiaaa.G
open Go Go.KK

noncomputable def f_law28_ClientFinds_l0 (a0 : Int) (a1 : Int) (a2 : (List Bool)) (s_ : (Int × Int × Int × Int × Int × (List T_api_Request) × Int)) : Option ((Int × Int × Int × Int × Int × (List T_api_Request) × Int) ⊕ ((Int × Int × Int × Int × (List T_api_Request) × Int) ⊕ (Bool × Int × Int × Int × Int × (List T_api_Request) × Int))) :=
  match s_ with
  | (x49, x50, x51, x52, x53, x54, x55) =>
    (if (decide (x49 ≤ (IntKind.i64.wrap ((1 : Int) + ((IntKind.i64.wrap a0).tmod (7 : Int)))))) = true then ((f_client_Ask (⟨x50, x51, x52, x53, x54, x55⟩ : T_api_Client)).bind fun (r70, r71, r72, r73) => (if (!r73) = true then (some (Sum.inr (Sum.inr (false, x50, x51, x52, x53, x54, x55)))) else (if (decide (r71 = (IntKind.i64.wrap ((1 : Int) + ((IntKind.i64.wrap a1).tmod (IntKind.i64.wrap ((1 : Int) + ((IntKind.i64.wrap a0).tmod (7 : Int))))))))) = true then ((f_client_Heard r70 (⟨(1 : Int), r72.Serial, (0 : Int), (0 : Int), (⟨false, false, false⟩ : T_api_Told)⟩ : T_api_Reply)).bind fun (r85, r86) => (((if r86 = true then ((f_law28_works).bind fun (r96 : Bool) => (some r96)) else (some false)) : Option Bool).bind fun (x93 : Bool) => (some (Sum.inr (Sum.inr (x93, x50, x51, x52, x53, x54, x55)))))) else (((((if (decide (x49 < (a2.length : Int))) = true then (grd (0 ≤ x49 ∧ x49 < a2.length) (some (rd a2 x49))) else (some false)) : Option Bool).bind fun (x103 : Bool) => (if x103 = true then (some (IntKind.i64.wrap ((1 : Int) + ((IntKind.i64.wrap a1).tmod (IntKind.i64.wrap ((1 : Int) + ((IntKind.i64.wrap a0).tmod (7 : Int)))))))) else (some (0 : Int)))) : Option Int).bind fun (x101 : Int) => ((f_client_Heard r70 (⟨(1 : Int), r72.Serial, (12 : Int), x101, (⟨false, false, false⟩ : T_api_Told)⟩ : T_api_Reply)).bind fun (r114, r115) => (if r115 = true then (some (Sum.inr (Sum.inr (false, x50, x51, x52, x53, x54, x55)))) else (some (Sum.inl (IntKind.i64.wrap (x49 + (1 : Int)), r114.Id, r114.Serial, r114.Voters, r114.Node, r114.Open, r114.Tries))))))))) else (some (Sum.inr (Sum.inl (x50, x51, x52, x53, x54, x55)))))
noncomputable def f_law28_ClientFinds (a0 : Int) (a1 : Int) (a2 : (List Bool)) : Option Bool :=
  (grd (IntKind.i64.wrap ((1 : Int) + ((IntKind.i64.wrap a0).tmod (7 : Int))) ≠ 0) ((f_client_New (1 : Int) (IntKind.i64.wrap ((1 : Int) + ((IntKind.i64.wrap a0).tmod (7 : Int))))).bind fun (r22, r23) => (if (!r23.isNil) = true then (some false) else ((f_client_Begin r22 (⟨(0 : Int), (0 : Int), (2 : Int), (⟨#[116]⟩ : ByteArray), (⟨#[]⟩ : ByteArray), (⟨#[]⟩ : ByteArray), false, (0 : Int), (0 : Int), (0 : Int), [], (0 : Int), (0 : Int), (⟨#[]⟩ : ByteArray), (⟨(0 : Int), (0 : Int), (0 : Int), false, false⟩ : T_api_Word)⟩ : T_api_Request)).bind fun (r33, r34) => (if (!r34.isNil) = true then (some false) else ((((iter (f_law28_ClientFinds_l0 a0 a1 a2) ((0 : Int), r33.Id, r33.Serial, r33.Voters, r33.Node, r33.Open, r33.Tries)).bind (Sum.elim (fun (x56, x57, x58, x59, x60, x61) => (some (Sum.inl (x56, x57, x58, x59, x60, x61)))) (fun (x62, x63, x64, x65, x66, x67, x68) => (((some x62)).bind fun r => some (Sum.inr r))))) : Option ((Int × Int × Int × Int × (List T_api_Request) × Int) ⊕ Bool)).bind (Sum.elim (fun (x41, x42, x43, x44, x45, x46) => (some false)) some)))))))
def f_law28_ClientFinds_post (a0 : Int) (a1 : Int) (a2 : (List Bool)) (v2 : Value) : Bool → Value → IM → HL → Prop :=
  fun (r0 : Bool) (v : Value) (M' : IM) (H' : HL) => (.bool r0) = v ∧ H' = []
set_option maxHeartbeats 8000000 in
set_option maxRecDepth 100000 in
theorem f_law28_ClientFinds_ok (a0 : Int) (a1 : Int) (a2 : (List Bool)) (M : IM) (v2 : Value) (h2 : RS Kd.bool M v2 a2) (res : Bool) (h : f_law28_ClientFinds a0 a1 a2 = some res) :
    Tri Try.prog 5 #[(.int .u8 a0), (.int .u8 a1), v2] M [] (f_law28_ClientFinds_post a0 a1 a2 v2 res) := by
 unfold f_law28_ClientFinds at h
 refine Tri.enter (fn := Try.f5) Try.func5 rfl (Nat.le_of_ble_eq_true rfl) ?_
 intro F ρ hρ
 refine Sr ?_
 refine Pa (.bool false) rfl rfl ?_
 refine Ns ?_
 refine Pm (.int .u8 a0) (hρ 0) rfl ?_
 refine Pu (.int .i64 (IntKind.i64.wrap a0)) (PO.conv us5 Try.underlying3 rfl) rfl ?_
 refine Pu (.int .i64 ((IntKind.i64.wrap a0).tmod (7 : Int))) (PO.rem rfl rfl (by decide)) rfl ?_
 refine Pu (.int .i64 (IntKind.i64.wrap ((1 : Int) + ((IntKind.i64.wrap a0).tmod (7 : Int))))) (PO.add rfl rfl) rfl ?_
 refine Pa (.int .i64 (IntKind.i64.wrap ((1 : Int) + ((IntKind.i64.wrap a0).tmod (7 : Int))))) rfl rfl ?_
 refine Ns ?_
 refine Pm (.int .u8 a1) (hρ 1) rfl ?_
 refine Pu (.int .i64 (IntKind.i64.wrap a1)) (PO.conv us5 Try.underlying3 rfl) rfl ?_
 refine Pm (.int .i64 (IntKind.i64.wrap ((1 : Int) + ((IntKind.i64.wrap a0).tmod (7 : Int))))) rfl rfl ?_
 obtain ⟨hg21, h⟩ := grd_i h
 refine Pu (.int .i64 ((IntKind.i64.wrap a1).tmod (IntKind.i64.wrap ((1 : Int) + ((IntKind.i64.wrap a0).tmod (7 : Int)))))) (PO.rem rfl rfl hg21) rfl ?_
 refine Pu (.int .i64 (IntKind.i64.wrap ((1 : Int) + ((IntKind.i64.wrap a1).tmod (IntKind.i64.wrap ((1 : Int) + ((IntKind.i64.wrap a0).tmod (7 : Int)))))))) (PO.add rfl rfl) rfl ?_
 refine Pa (.int .i64 (IntKind.i64.wrap ((1 : Int) + ((IntKind.i64.wrap a1).tmod (IntKind.i64.wrap ((1 : Int) + ((IntKind.i64.wrap a0).tmod (7 : Int)))))))) rfl rfl ?_
 refine Ns ?_
 refine Pm (.int .i64 (IntKind.i64.wrap ((1 : Int) + ((IntKind.i64.wrap a0).tmod (7 : Int))))) rfl rfl ?_
 obtain ⟨⟨r22, r23⟩, hr24, h⟩ := bnd h
 refine WL.eff (EO.call0 co15 (f_client_New_ok (1 : Int) (IntKind.i64.wrap ((1 : Int) + ((IntKind.i64.wrap a0).tmod (7 : Int)))) _ (r22, r23) hr24) (args2 rfl rfl)) rfl ?_
 rintro _ M25 _ hle26 ⟨_, ⟨vq27_4, cq27_4, rfl, rfl, hq27_4⟩, rfl⟩
 have h2 := h2.mono hle26
 refine WL.a1 ?_
 refine Pm (.tuple #[(.agg #[(.int .i64 r22.Id), (.int .i64 r22.Serial), (.int .i64 r22.Voters), (.int .i64 r22.Node), vq27_4, (.int .i64 r22.Tries)]), (GV r23)]) rfl rfl ?_
 refine Pu (.agg #[(.int .i64 r22.Id), (.int .i64 r22.Serial), (.int .i64 r22.Voters), (.int .i64 r22.Node), vq27_4, (.int .i64 r22.Tries)]) (PO.extract rfl rfl) rfl ?_
 refine Pu (GV r23) (PO.extract rfl rfl) rfl ?_
 refine WL.eff (EO.alloc ze24 rfl) rfl ?_
 rintro _ _ _ - ⟨rfl, g29, rfl, rfl⟩
 refine WL.eff (EO.storeL (v := (.agg #[(.int .i64 r22.Id), (.int .i64 r22.Serial), (.int .i64 r22.Voters), (.int .i64 r22.Node), vq27_4, (.int .i64 r22.Tries)])) (vl := [(.int .i64 r22.Id), (.int .i64 r22.Serial), (.int .i64 r22.Voters), (.int .i64 r22.Node), vq27_4, (.int .i64 r22.Tries)]) (arr' := [(.int .i64 r22.Id), (.int .i64 r22.Serial), (.int .i64 r22.Voters), (.int .i64 r22.Node), vq27_4, (.int .i64 r22.Tries)]) rfl sz24 rfl rfl (onesOf (Ones.cons rfl (Ones.cons rfl (Ones.cons rfl (Ones.cons rfl (Ones.cons (OwnS.one hq27_4) (Ones.cons rfl Ones.nil))))))) rfl rfl rfl) rfl ?_
 rintro _ _ _ - ⟨rfl, rfl⟩
 refine Pa (GV r23) rfl rfl ?_
 refine Nt ?_
 refine WC.seq ?_
 refine Sr ?_
 refine Pm (GV r23) rfl rfl ?_
 refine Pu (.bool (!r23.isNil)) (PO.errNotNil Try.underlying40 rfl) rfl ?_
 refine Nt ?_
 refine WC.cond (b := !r23.isNil) rfl (fun hb30 => ?_) (fun hb30 => ?_)
 have h := ite_t hb30 h
 refine Sr ?_
 refine Pa (.bool false) rfl rfl ?_
 refine Nt ?_
 refine WC.ret ?_
 refine WQ.thenR ?_
 refine WQ.drop ?_
 refine WQ.drop ?_
 exact WQ.returnsF h [] rfl (results1 rfl rfl) hle26 ⟨rfl, rfl⟩
 have h := ite_f hb30 h
 refine WC.skip ?_
 refine WQ.thenC ?_
 refine Sr ?_
 refine Pu (.agg #[(.int .i64 r22.Id), (.int .i64 r22.Serial), (.int .i64 r22.Voters), (.int .i64 r22.Node), vq27_4, (.int .i64 r22.Tries)]) (PO.loadBA (cs := [(.int .i64 r22.Id), (.int .i64 r22.Serial), (.int .i64 r22.Voters), (.int .i64 r22.Node), vq27_4, (.int .i64 r22.Tries)]) 0 ag24 sz24 rfl rfl rfl) rfl ?_
 refine Pu (.agg #[(.int .i64 (0 : Int)), (.int .i64 (0 : Int)), (.int .i64 (2 : Int)), (.string (⟨#[116]⟩ : ByteArray)), (.string (⟨#[]⟩ : ByteArray)), (.string (⟨#[]⟩ : ByteArray)), (.bool false), (.int .i64 (0 : Int)), (.int .i64 (0 : Int)), (.int .i64 (0 : Int)), (.slice none 0 0), (.int .i64 (0 : Int)), (.int .i64 (0 : Int)), (.string (⟨#[]⟩ : ByteArray)), (.int .i64 (0 : Int)), (.int .i64 (0 : Int)), (.int .i64 (0 : Int)), (.bool false), (.bool false)]) (PO.buildL (cl := [(.int .i64 (0 : Int)), (.int .i64 (0 : Int)), (.int .i64 (2 : Int)), (.string (⟨#[116]⟩ : ByteArray)), (.string (⟨#[]⟩ : ByteArray)), (.string (⟨#[]⟩ : ByteArray)), (.bool false), (.int .i64 (0 : Int)), (.int .i64 (0 : Int)), (.int .i64 (0 : Int)), (.slice none 0 0), (.int .i64 (0 : Int)), (.int .i64 (0 : Int)), (.string (⟨#[]⟩ : ByteArray)), (.int .i64 (0 : Int)), (.int .i64 (0 : Int)), (.int .i64 (0 : Int)), (.bool false), (.bool false)]) ze29 fp29 (Parts.cons (congrArg Value.cells (show ev _ _ = (.int .i64 (2 : Int)) from rfl)) (Parts.cons (congrArg Value.cells (show ev _ _ = (.string (⟨#[116]⟩ : ByteArray)) from rfl)) Parts.nil)) rfl) rfl ?_
 refine WL.f1 ?_
 refine WL.know (fun _ hs => hq27_4.rs hs) (fun hf32 => ?_)
 refine WL.freeze (fun hle31 => ?_)
 have h2 := h2.mono hle31
 obtain ⟨⟨r33, r34⟩, hr35, h⟩ := bnd h
 refine WL.eff (EO.call0 co10 (f_client_Begin_ok r22 (⟨(0 : Int), (0 : Int), (2 : Int), (⟨#[116]⟩ : ByteArray), (⟨#[]⟩ : ByteArray), (⟨#[]⟩ : ByteArray), false, (0 : Int), (0 : Int), (0 : Int), [], (0 : Int), (0 : Int), (⟨#[]⟩ : ByteArray), (⟨(0 : Int), (0 : Int), (0 : Int), false, false⟩ : T_api_Word)⟩ : T_api_Request) _ _ _ hf32 (RS.nil _ _) (r33, r34) hr35) (args2 rfl rfl)) rfl ?_
 rintro _ M36 _ hle37 ⟨_, ⟨vq38_4, rfl, rfl, hq38_4⟩, rfl⟩
 have h2 := h2.mono hle37
 have hf32 := hf32.mono hle37
 refine WL.a0 ?_
 refine Pm (.tuple #[(.agg #[(.int .i64 r33.Id), (.int .i64 r33.Serial), (.int .i64 r33.Voters), (.int .i64 r33.Node), vq38_4, (.int .i64 r33.Tries)]), (GV r34)]) rfl rfl ?_
 refine Pu (.agg #[(.int .i64 r33.Id), (.int .i64 r33.Serial), (.int .i64 r33.Voters), (.int .i64 r33.Node), vq38_4, (.int .i64 r33.Tries)]) (PO.extract rfl rfl) rfl ?_
 refine Pu (GV r34) (PO.extract rfl rfl) rfl ?_
 refine WL.eff (EO.storeL (v := (.agg #[(.int .i64 r33.Id), (.int .i64 r33.Serial), (.int .i64 r33.Voters), (.int .i64 r33.Node), vq38_4, (.int .i64 r33.Tries)])) (vl := [(.int .i64 r33.Id), (.int .i64 r33.Serial), (.int .i64 r33.Voters), (.int .i64 r33.Node), vq38_4, (.int .i64 r33.Tries)]) (arr' := [(.int .i64 r33.Id), (.int .i64 r33.Serial), (.int .i64 r33.Voters), (.int .i64 r33.Node), vq38_4, (.int .i64 r33.Tries)]) rfl sz24 rfl rfl (onesOf (Ones.cons rfl (Ones.cons rfl (Ones.cons rfl (Ones.cons rfl (Ones.cons (RS.one hq38_4) (Ones.cons rfl Ones.nil))))))) rfl rfl rfl) rfl ?_
 rintro _ _ _ - ⟨rfl, rfl⟩
 refine Pa (GV r34) rfl rfl ?_
 refine Nt ?_
 refine WC.seq ?_
 refine Sr ?_
 refine Pm (GV r34) rfl rfl ?_
 refine Pu (.bool (!r34.isNil)) (PO.errNotNil Try.underlying40 rfl) rfl ?_
 refine Nt ?_
 refine WC.cond (b := !r34.isNil) rfl (fun hb40 => ?_) (fun hb40 => ?_)
 have h := ite_t hb40 h
 refine Sr ?_
 refine Pa (.bool false) rfl rfl ?_
 refine Nt ?_
 refine WC.ret ?_
 refine WQ.thenR ?_
 refine WQ.drop ?_
 exact WQ.returnsF h [] rfl (results1 rfl rfl) ((hle26.trans hle31).trans hle37) ⟨rfl, rfl⟩
 have h := ite_f hb40 h
 refine WC.skip ?_
 refine WQ.thenC ?_
 obtain ⟨j47, hj47, h⟩ := bnd h
 refine WC.joinE (fun (p_ : (Int × Int × Int × Int × (List T_api_Request) × Int)) ρ' M' H' => match p_ with | (x41, x42, x43, x44, x45, x46) => ∃ vx45, M36.le M' ∧ [(g29, .cells #[(.int .i64 x41), (.int .i64 x42), (.int .i64 x43), (.int .i64 x44), vx45, (.int .i64 x46)] 24 (0, 0))] :: F = H' ∧ RS kd_api_Request M' vx45 x45) j47 ?_ ?_
 have h347 := h
 have h := hj47
 refine Sr ?_
 refine Pa (.int .i64 (0 : Int)) rfl rfl ?_
 refine Nt ?_
 refine WC.block ?_
 obtain ⟨e48, he48, hK48⟩ := bnd h
 clear h
 refine WC.loop he48 (fun (p_ : (Int × Int × Int × Int × Int × (List T_api_Request) × Int)) ρ' M' H' => match p_ with | (x49, x50, x51, x52, x53, x54, x55) => ∃ vx54, M36.le M' ∧ [(g29, .cells #[(.int .i64 x50), (.int .i64 x51), (.int .i64 x52), (.int .i64 x53), vx54, (.int .i64 x55)] 24 (0, 0))] :: F = H' ∧ ρ' 2 = v2 ∧ ρ' 7 = (.int .i64 (IntKind.i64.wrap ((1 : Int) + ((IntKind.i64.wrap a0).tmod (7 : Int))))) ∧ ρ' 8 = (.int .i64 (IntKind.i64.wrap ((1 : Int) + ((IntKind.i64.wrap a1).tmod (IntKind.i64.wrap ((1 : Int) + ((IntKind.i64.wrap a0).tmod (7 : Int)))))))) ∧ ρ' 9 = (.pointer (some ⟨g29, 0, none⟩)) ∧ ρ' 12 = (.int .i64 x49) ∧ RS kd_api_Request M' vx54 x54) ?_ ?_
 exact ⟨vq38_4, (IM.le.refl _), rfl, (hρ 2), rfl, rfl, rfl, rfl, hq38_4⟩
 rintro ⟨x49, x50, x51, x52, x53, x54, x55⟩ o48 ρ48 M48 H48 h ⟨vx54, hle48, rfl, hs48_2, hs48_7, hs48_8, hs48_9, hs48_12, hx54⟩
 unfold f_law28_ClientFinds_l0 at h
 have h2 := h2.mono hle48
 refine WC.seq ?_
 refine Sr ?_
 refine Pm (.int .i64 x49) hs48_12 rfl ?_
 refine Pm (.int .i64 (IntKind.i64.wrap ((1 : Int) + ((IntKind.i64.wrap a0).tmod (7 : Int))))) hs48_7 rfl ?_
 refine Pu (.bool (decide (x49 ≤ (IntKind.i64.wrap ((1 : Int) + ((IntKind.i64.wrap a0).tmod (7 : Int))))))) (PO.leq rfl rfl) rfl ?_
 refine Nt ?_
 refine WC.cond (b := decide (x49 ≤ (IntKind.i64.wrap ((1 : Int) + ((IntKind.i64.wrap a0).tmod (7 : Int)))))) rfl (fun hb69 => ?_) (fun hb69 => ?_)
 have h := ite_t hb69 h
 refine WC.skip ?_
 refine WQ.thenC ?_
 refine WC.seq ?_
 refine WC.block ?_
 refine Sr ?_
 refine Pu (.agg #[(.int .i64 x50), (.int .i64 x51), (.int .i64 x52), (.int .i64 x53), vx54, (.int .i64 x55)]) (PO.loadBA (cs := [(.int .i64 x50), (.int .i64 x51), (.int .i64 x52), (.int .i64 x53), vx54, (.int .i64 x55)]) 0 ag24 sz24 hs48_9 rfl rfl) rfl ?_
 obtain ⟨⟨r70, r71, r72, r73⟩, hr74, h⟩ := bnd h
 refine WL.eff (EO.call0 co11 (f_client_Ask_ok (⟨x50, x51, x52, x53, x54, x55⟩ : T_api_Client) _ _ hx54 (r70, r71, r72, r73) hr74) (args1 rfl)) rfl ?_
 rintro _ M75 _ hle76 ⟨_, ⟨vq77_4, vq79_10, cq79_10, rfl, rfl, hq77_4, hq79_10⟩, rfl⟩
 have h2 := h2.mono hle76
 have hx54 := hx54.mono hle76
 refine WL.a1 ?_
 refine Pm (.tuple #[(.agg #[(.int .i64 r70.Id), (.int .i64 r70.Serial), (.int .i64 r70.Voters), (.int .i64 r70.Node), vq77_4, (.int .i64 r70.Tries)]), (.int .i64 r71), (.agg #[(.int .i64 r72.Client), (.int .i64 r72.Serial), (.int .i64 r72.Kind), (.string r72.Name), (.string r72.Key), (.string r72.Value), (.bool r72.Flag), (.int .i64 r72.Parts), (.int .i64 r72.Replicas), (.int .i64 r72.Part), vq79_10, (.int .i64 r72.Broker), (.int .i64 r72.Epoch), (.string r72.Rack), (.int .i64 r72.Word.Broker), (.int .i64 r72.Word.Epoch), (.int .i64 r72.Word.High), (.bool r72.Word.Fence), (.bool r72.Word.Leave)]), (.bool r73)]) rfl rfl ?_
 refine Pu (.agg #[(.int .i64 r70.Id), (.int .i64 r70.Serial), (.int .i64 r70.Voters), (.int .i64 r70.Node), vq77_4, (.int .i64 r70.Tries)]) (PO.extract rfl rfl) rfl ?_
 refine Pu (.int .i64 r71) (PO.extract rfl rfl) rfl ?_
 refine Pu (.agg #[(.int .i64 r72.Client), (.int .i64 r72.Serial), (.int .i64 r72.Kind), (.string r72.Name), (.string r72.Key), (.string r72.Value), (.bool r72.Flag), (.int .i64 r72.Parts), (.int .i64 r72.Replicas), (.int .i64 r72.Part), vq79_10, (.int .i64 r72.Broker), (.int .i64 r72.Epoch), (.string r72.Rack), (.int .i64 r72.Word.Broker), (.int .i64 r72.Word.Epoch), (.int .i64 r72.Word.High), (.bool r72.Word.Fence), (.bool r72.Word.Leave)]) (PO.extract rfl rfl) rfl ?_
 refine Pu (.bool r73) (PO.extract rfl rfl) rfl ?_
 refine WL.eff (EO.alloc ze24 rfl) rfl ?_
 rintro _ _ _ - ⟨rfl, g81, rfl, rfl⟩
 refine WL.eff (EO.alloc ze29 rfl) rfl ?_
 rintro _ _ _ - ⟨rfl, g82, rfl, rfl⟩
 refine WL.f1 ?_
 refine WL.eff (EO.storeL (v := (.agg #[(.int .i64 r70.Id), (.int .i64 r70.Serial), (.int .i64 r70.Voters), (.int .i64 r70.Node), vq77_4, (.int .i64 r70.Tries)])) (vl := [(.int .i64 r70.Id), (.int .i64 r70.Serial), (.int .i64 r70.Voters), (.int .i64 r70.Node), vq77_4, (.int .i64 r70.Tries)]) (arr' := [(.int .i64 r70.Id), (.int .i64 r70.Serial), (.int .i64 r70.Voters), (.int .i64 r70.Node), vq77_4, (.int .i64 r70.Tries)]) rfl sz24 rfl rfl (onesOf (Ones.cons rfl (Ones.cons rfl (Ones.cons rfl (Ones.cons rfl (Ones.cons (RS.one hq77_4) (Ones.cons rfl Ones.nil))))))) rfl rfl rfl) rfl ?_
 rintro _ _ _ - ⟨rfl, rfl⟩
 refine Pa (.int .i64 r71) rfl rfl ?_
 refine WL.f1 ?_
 refine WL.eff (EO.storeL (v := (.agg #[(.int .i64 r72.Client), (.int .i64 r72.Serial), (.int .i64 r72.Kind), (.string r72.Name), (.string r72.Key), (.string r72.Value), (.bool r72.Flag), (.int .i64 r72.Parts), (.int .i64 r72.Replicas), (.int .i64 r72.Part), vq79_10, (.int .i64 r72.Broker), (.int .i64 r72.Epoch), (.string r72.Rack), (.int .i64 r72.Word.Broker), (.int .i64 r72.Word.Epoch), (.int .i64 r72.Word.High), (.bool r72.Word.Fence), (.bool r72.Word.Leave)])) (vl := [(.int .i64 r72.Client), (.int .i64 r72.Serial), (.int .i64 r72.Kind), (.string r72.Name), (.string r72.Key), (.string r72.Value), (.bool r72.Flag), (.int .i64 r72.Parts), (.int .i64 r72.Replicas), (.int .i64 r72.Part), vq79_10, (.int .i64 r72.Broker), (.int .i64 r72.Epoch), (.string r72.Rack), (.int .i64 r72.Word.Broker), (.int .i64 r72.Word.Epoch), (.int .i64 r72.Word.High), (.bool r72.Word.Fence), (.bool r72.Word.Leave)]) (arr' := [(.int .i64 r72.Client), (.int .i64 r72.Serial), (.int .i64 r72.Kind), (.string r72.Name), (.string r72.Key), (.string r72.Value), (.bool r72.Flag), (.int .i64 r72.Parts), (.int .i64 r72.Replicas), (.int .i64 r72.Part), vq79_10, (.int .i64 r72.Broker), (.int .i64 r72.Epoch), (.string r72.Rack), (.int .i64 r72.Word.Broker), (.int .i64 r72.Word.Epoch), (.int .i64 r72.Word.High), (.bool r72.Word.Fence), (.bool r72.Word.Leave)]) rfl sz29 rfl rfl (onesOf (Ones.cons rfl (Ones.cons rfl (Ones.cons rfl (Ones.cons rfl (Ones.cons rfl (Ones.cons rfl (Ones.cons rfl (Ones.cons rfl (Ones.cons rfl (Ones.cons rfl (Ones.cons (OwnS.one hq79_10) (Ones.cons rfl (Ones.cons rfl (Ones.cons rfl (Ones.cons rfl (Ones.cons rfl (Ones.cons rfl (Ones.cons rfl (Ones.cons rfl Ones.nil)))))))))))))))))))) rfl rfl (by kernel_rfl)) rfl ?_
 rintro _ _ _ - ⟨rfl, rfl⟩
 refine Pa (.bool r73) rfl rfl ?_
 refine Nt ?_
 refine WC.seq ?_
 refine Sr ?_
 refine Pm (.bool r73) rfl rfl ?_
 refine Pu (.bool (!r73)) (PO.not rfl) rfl ?_
 refine Nt ?_
 refine WC.cond (b := !r73) rfl (fun hb83 => ?_) (fun hb83 => ?_)
 have h := ite_t hb83 h
 refine Sr ?_
 refine Pa (.bool false) rfl rfl ?_
 refine Nt ?_
 refine WC.ret ?_
 refine WQ.thenR ?_
 refine WQ.blockR ?_
 refine WQ.thenR ?_
 refine WQ.leaveR (Sum.inr (false, x50, x51, x52, x53, x54, x55)) (Option.some.inj h).symm (fun heq48 => ?_)
 subst heq48
 have h := (elimR hK48)
 refine WQ.blockR ?_
 refine WQ.thenR ?_
 have h := KK.early h h347
 refine WQ.drop ?_
 refine WQ.drop ?_
 refine WQ.drop ?_
 refine WQ.drop ?_
 exact WQ.returnsF h [] rfl (results1 rfl rfl) ((((hle26.trans hle31).trans hle37).trans hle48).trans hle76) ⟨rfl, rfl⟩
 have h := ite_f hb83 h
 refine WC.skip ?_
 refine WQ.thenC ?_
 refine WC.seq ?_
 refine Sr ?_
 refine Pm (.int .i64 r71) rfl rfl ?_
 refine Pm (.int .i64 (IntKind.i64.wrap ((1 : Int) + ((IntKind.i64.wrap a1).tmod (IntKind.i64.wrap ((1 : Int) + ((IntKind.i64.wrap a0).tmod (7 : Int)))))))) hs48_8 rfl ?_
 refine Pu (.bool (decide (r71 = (IntKind.i64.wrap ((1 : Int) + ((IntKind.i64.wrap a1).tmod (IntKind.i64.wrap ((1 : Int) + ((IntKind.i64.wrap a0).tmod (7 : Int)))))))))) (PO.eql rfl rfl) rfl ?_
 refine Nt ?_
 refine WC.cond (b := decide (r71 = (IntKind.i64.wrap ((1 : Int) + ((IntKind.i64.wrap a1).tmod (IntKind.i64.wrap ((1 : Int) + ((IntKind.i64.wrap a0).tmod (7 : Int))))))))) rfl (fun hb84 => ?_) (fun hb84 => ?_)
 have h := ite_t hb84 h
 refine Sr ?_
 refine Pu (.agg #[(.int .i64 r70.Id), (.int .i64 r70.Serial), (.int .i64 r70.Voters), (.int .i64 r70.Node), vq77_4, (.int .i64 r70.Tries)]) (PO.loadBA (cs := [(.int .i64 r70.Id), (.int .i64 r70.Serial), (.int .i64 r70.Voters), (.int .i64 r70.Node), vq77_4, (.int .i64 r70.Tries)]) 1 ag24 sz24 rfl rfl rfl) rfl ?_
 refine Pu (.pointer (some ⟨g82, 1, none⟩)) (PO.fieldAddr fo29_1 rfl rfl) rfl ?_
 refine Pu (.int .i64 r72.Serial) (PO.loadB 0 pl3 rfl rfl rfl) rfl ?_
 refine Pu (.agg #[(.int .i64 (1 : Int)), (.int .i64 r72.Serial), (.int .i64 (0 : Int)), (.int .i64 (0 : Int)), (.bool false), (.bool false), (.bool false)]) (PO.buildL (cl := [(.int .i64 (1 : Int)), (.int .i64 r72.Serial), (.int .i64 (0 : Int)), (.int .i64 (0 : Int)), (.bool false), (.bool false), (.bool false)]) ze33 fp33 (Parts.cons (congrArg Value.cells (show ev _ _ = (.int .i64 (1 : Int)) from rfl)) (Parts.cons (congrArg Value.cells (show ev _ _ = (.int .i64 r72.Serial) from rfl)) Parts.nil)) rfl) rfl ?_
 obtain ⟨⟨r85, r86⟩, hr87, h⟩ := bnd h
 refine WL.eff (EO.call0 co12 (f_client_Heard_ok r70 (⟨(1 : Int), r72.Serial, (0 : Int), (0 : Int), (⟨false, false, false⟩ : T_api_Told)⟩ : T_api_Reply) _ _ hq77_4 (r85, r86) hr87) (args2 rfl rfl)) rfl ?_
 rintro _ M88 _ hle89 ⟨_, ⟨vq90_4, rfl, rfl, hq90_4⟩, rfl⟩
 have h2 := h2.mono hle89
 have hq77_4 := hq77_4.mono hle89
 have hx54 := hx54.mono hle89
 have hq79_10 := hq79_10.mono hle89
 refine WL.a0 ?_
 refine Pm (.tuple #[(.agg #[(.int .i64 r85.Id), (.int .i64 r85.Serial), (.int .i64 r85.Voters), (.int .i64 r85.Node), vq90_4, (.int .i64 r85.Tries)]), (.bool r86)]) rfl rfl ?_
 refine Pu (.agg #[(.int .i64 r85.Id), (.int .i64 r85.Serial), (.int .i64 r85.Voters), (.int .i64 r85.Node), vq90_4, (.int .i64 r85.Tries)]) (PO.extract rfl rfl) rfl ?_
 refine Pu (.bool r86) (PO.extract rfl rfl) rfl ?_
 refine WL.eff (EO.alloc ze24 rfl) rfl ?_
 rintro _ _ _ - ⟨rfl, g92, rfl, rfl⟩
 refine WL.eff (EO.storeL (v := (.agg #[(.int .i64 r85.Id), (.int .i64 r85.Serial), (.int .i64 r85.Voters), (.int .i64 r85.Node), vq90_4, (.int .i64 r85.Tries)])) (vl := [(.int .i64 r85.Id), (.int .i64 r85.Serial), (.int .i64 r85.Voters), (.int .i64 r85.Node), vq90_4, (.int .i64 r85.Tries)]) (arr' := [(.int .i64 r85.Id), (.int .i64 r85.Serial), (.int .i64 r85.Voters), (.int .i64 r85.Node), vq90_4, (.int .i64 r85.Tries)]) rfl sz24 rfl rfl (onesOf (Ones.cons rfl (Ones.cons rfl (Ones.cons rfl (Ones.cons rfl (Ones.cons (RS.one hq90_4) (Ones.cons rfl Ones.nil))))))) rfl rfl rfl) rfl ?_
 rintro _ _ _ - ⟨rfl, rfl⟩
 refine Pa (.bool r86) rfl rfl ?_
 refine Nt ?_
 obtain ⟨x93, hj94, h⟩ := bnd h
 refine WC.joinF (fun (x93 : Bool) ρ' M' H' => M88.le M' ∧ [(g92, .cells #[(.int .i64 r85.Id), (.int .i64 r85.Serial), (.int .i64 r85.Voters), (.int .i64 r85.Node), vq90_4, (.int .i64 r85.Tries)] 24 (0, 0))] :: [(g82, .cells #[(.int .i64 r72.Client), (.int .i64 r72.Serial), (.int .i64 r72.Kind), (.string r72.Name), (.string r72.Key), (.string r72.Value), (.bool r72.Flag), (.int .i64 r72.Parts), (.int .i64 r72.Replicas), (.int .i64 r72.Part), vq79_10, (.int .i64 r72.Broker), (.int .i64 r72.Epoch), (.string r72.Rack), (.int .i64 r72.Word.Broker), (.int .i64 r72.Word.Epoch), (.int .i64 r72.Word.High), (.bool r72.Word.Fence), (.bool r72.Word.Leave)] 29 (0, 0))] :: [(g81, .cells #[(.int .i64 r70.Id), (.int .i64 r70.Serial), (.int .i64 r70.Voters), (.int .i64 r70.Node), vq77_4, (.int .i64 r70.Tries)] 24 (0, 0))] :: [(g29, .cells #[(.int .i64 x50), (.int .i64 x51), (.int .i64 x52), (.int .i64 x53), vx54, (.int .i64 x55)] 24 (0, 0))] :: cq79_10 :: F = H' ∧ ρ' 6 = (.bool x93)) x93 ?_ ?_
 have h394 := h
 have h := hj94
 refine WC.region ?_
 refine Pm (.bool r86) rfl rfl ?_
 refine Pm (.bool r86) rfl rfl ?_
 rcases Bool.eq_false_or_eq_true (r86) with hb95 | hb95
 have h := ite_t hb95 h
 refine On 72 rfl rfl hb95 ?_
 obtain ⟨r96, hr97, h⟩ := bnd h
 refine WL.eff (EO.call0 co9 (f_law28_works_ok _ r96 hr97) (args0)) rfl ?_
 rintro _ M98 _ hle99 ⟨_, ⟨rfl, rfl⟩, rfl⟩
 have hx54 := hx54.mono hle99
 have hq77_4 := hq77_4.mono hle99
 have hq79_10 := hq79_10.mono hle99
 have hq90_4 := hq90_4.mono hle99
 refine WL.a0 ?_
 refine Pu (.bool r96) (PO.pickT rfl hb95 rfl) rfl ?_
 refine Pa (.bool r96) rfl rfl ?_
 refine WL.nil ?_
 refine WQ.f3 ?_
 refine WQ.f4 ?_
 refine WQ.f4 ?_
 refine WQ.f4 ?_
 refine WQ.f4 ?_
 obtain rfl := Option.some.inj h
 refine WQ.thenJ ?_
 exact ⟨hle99, rfl, rfl⟩
 have h := ite_f hb95 h
 refine Of 72 rfl rfl hb95 rfl ?_
 refine Pu (.bool false) (PO.pickF rfl hb95 rfl) rfl ?_
 refine Pa (.bool false) rfl rfl ?_
 refine WL.nil ?_
 refine WQ.f3 ?_
 refine WQ.f4 ?_
 refine WQ.f4 ?_
 refine WQ.f4 ?_
 refine WQ.f4 ?_
 obtain rfl := Option.some.inj h
 refine WQ.thenJ ?_
 exact ⟨(IM.le.refl _), rfl, rfl⟩
 rintro ρ94 M94 H94 ⟨hle94, rfl, hs94_6⟩
 have hq90_4 := hq90_4.mono hle94
 have hq79_10 := hq79_10.mono hle94
 have hq77_4 := hq77_4.mono hle94
 have hx54 := hx54.mono hle94
 refine WC.ret ?_
 refine WQ.thenR ?_
 refine WQ.blockR ?_
 refine WQ.thenR ?_
 refine WQ.leaveR (Sum.inr (x93, x50, x51, x52, x53, x54, x55)) (Option.some.inj h).symm (fun heq48 => ?_)
 subst heq48
 have h := (elimR hK48)
 refine WQ.blockR ?_
 refine WQ.thenR ?_
 have h := KK.early h h347
 refine WQ.drop ?_
 refine WQ.drop ?_
 refine WQ.drop ?_
 refine WQ.drop ?_
 refine WQ.drop ?_
 exact WQ.returnsF h [] rfl (results1 rfl hs94_6) ((((((hle26.trans hle31).trans hle37).trans hle48).trans hle76).trans hle89).trans hle94) ⟨rfl, rfl⟩
 have h := ite_f hb84 h
 refine WC.skip ?_
 refine WQ.thenC ?_
 refine Sr ?_
 refine Pa (.int .i64 (0 : Int)) rfl rfl ?_
 refine Nt ?_
 obtain ⟨x101, hj102, h⟩ := bnd h
 refine WC.joinF (fun (x101 : Int) ρ' M' H' => M75.le M' ∧ [(g82, .cells #[(.int .i64 r72.Client), (.int .i64 r72.Serial), (.int .i64 r72.Kind), (.string r72.Name), (.string r72.Key), (.string r72.Value), (.bool r72.Flag), (.int .i64 r72.Parts), (.int .i64 r72.Replicas), (.int .i64 r72.Part), vq79_10, (.int .i64 r72.Broker), (.int .i64 r72.Epoch), (.string r72.Rack), (.int .i64 r72.Word.Broker), (.int .i64 r72.Word.Epoch), (.int .i64 r72.Word.High), (.bool r72.Word.Fence), (.bool r72.Word.Leave)] 29 (0, 0))] :: [(g81, .cells #[(.int .i64 r70.Id), (.int .i64 r70.Serial), (.int .i64 r70.Voters), (.int .i64 r70.Node), vq77_4, (.int .i64 r70.Tries)] 24 (0, 0))] :: [(g29, .cells #[(.int .i64 x50), (.int .i64 x51), (.int .i64 x52), (.int .i64 x53), vx54, (.int .i64 x55)] 24 (0, 0))] :: cq79_10 :: F = H' ∧ ρ' 2 = v2 ∧ ρ' 7 = (.int .i64 (IntKind.i64.wrap ((1 : Int) + ((IntKind.i64.wrap a0).tmod (7 : Int))))) ∧ ρ' 8 = (.int .i64 (IntKind.i64.wrap ((1 : Int) + ((IntKind.i64.wrap a1).tmod (IntKind.i64.wrap ((1 : Int) + ((IntKind.i64.wrap a0).tmod (7 : Int)))))))) ∧ ρ' 9 = (.pointer (some ⟨g29, 0, none⟩)) ∧ ρ' 12 = (.int .i64 x49) ∧ ρ' 13 = (.pointer (some ⟨g81, 0, none⟩)) ∧ ρ' 15 = (.pointer (some ⟨g82, 0, none⟩)) ∧ ρ' 19 = (.int .i64 x101)) x101 ?_ ?_
 have h3102 := h
 have h := hj102
 obtain ⟨x103, hj104, h⟩ := bnd h
 refine WC.joinF (fun (x103 : Bool) ρ' M' H' => M75.le M' ∧ [(g82, .cells #[(.int .i64 r72.Client), (.int .i64 r72.Serial), (.int .i64 r72.Kind), (.string r72.Name), (.string r72.Key), (.string r72.Value), (.bool r72.Flag), (.int .i64 r72.Parts), (.int .i64 r72.Replicas), (.int .i64 r72.Part), vq79_10, (.int .i64 r72.Broker), (.int .i64 r72.Epoch), (.string r72.Rack), (.int .i64 r72.Word.Broker), (.int .i64 r72.Word.Epoch), (.int .i64 r72.Word.High), (.bool r72.Word.Fence), (.bool r72.Word.Leave)] 29 (0, 0))] :: [(g81, .cells #[(.int .i64 r70.Id), (.int .i64 r70.Serial), (.int .i64 r70.Voters), (.int .i64 r70.Node), vq77_4, (.int .i64 r70.Tries)] 24 (0, 0))] :: [(g29, .cells #[(.int .i64 x50), (.int .i64 x51), (.int .i64 x52), (.int .i64 x53), vx54, (.int .i64 x55)] 24 (0, 0))] :: cq79_10 :: F = H' ∧ ρ' 2 = v2 ∧ ρ' 7 = (.int .i64 (IntKind.i64.wrap ((1 : Int) + ((IntKind.i64.wrap a0).tmod (7 : Int))))) ∧ ρ' 8 = (.int .i64 (IntKind.i64.wrap ((1 : Int) + ((IntKind.i64.wrap a1).tmod (IntKind.i64.wrap ((1 : Int) + ((IntKind.i64.wrap a0).tmod (7 : Int)))))))) ∧ ρ' 9 = (.pointer (some ⟨g29, 0, none⟩)) ∧ ρ' 12 = (.int .i64 x49) ∧ ρ' 13 = (.pointer (some ⟨g81, 0, none⟩)) ∧ ρ' 15 = (.pointer (some ⟨g82, 0, none⟩)) ∧ ρ' 19 = (.int .i64 (0 : Int)) ∧ ρ' 84 = (.bool x103)) x103 ?_ ?_
 have h3104 := h
 have h := hj104
 refine WC.region ?_
 refine Pm (.int .i64 x49) hs48_12 rfl ?_
 refine Pm v2 hs48_2 rfl ?_
 refine Pu (.int .i64 (a2.length : Int)) (PO.lenS Try.underlying54 rfl h2.len) rfl ?_
 refine Pu (.bool (decide (x49 < (a2.length : Int)))) (PO.lss rfl rfl) rfl ?_
 refine Pm (.bool (decide (x49 < (a2.length : Int)))) rfl rfl ?_
 rcases Bool.eq_false_or_eq_true (decide (x49 < (a2.length : Int))) with hb105 | hb105
 have h := ite_t hb105 h
 refine On 79 rfl rfl hb105 ?_
 refine Pm v2 hs48_2 rfl ?_
 refine On 79 rfl rfl hb105 ?_
 refine Pm (.int .i64 x49) hs48_12 rfl ?_
 refine On 79 rfl rfl hb105 ?_
 obtain ⟨hg106, h⟩ := grd_i h
 obtain ⟨p107, cs108, hat109, hrc110, hhas111⟩ := h2.at hg106.1 hg106.2 (by decide)
 obtain rfl := hrc110
 refine Pu (.pointer (some p107)) (PO.indexAddr (n := a2.length) Try.underlying54 sz4 rfl rfl hg106.1 hg106.2 hat109) rfl ?_
 refine On 79 rfl rfl hb105 ?_
 refine Pu (.bool (rd a2 x49)) (PO.loadM pl4 rfl (IM.has0 hhas111)) rfl ?_
 refine Pu (.bool (rd a2 x49)) (PO.pickT rfl hb105 rfl) rfl ?_
 refine WL.nil ?_
 refine WQ.f2 ?_
 refine WQ.f3 ?_
 refine WQ.f3 ?_
 refine WQ.f3 ?_
 obtain rfl := Option.some.inj h
 refine WQ.thenJ ?_
 exact ⟨(IM.le.refl _), rfl, hs48_2, hs48_7, hs48_8, hs48_9, hs48_12, rfl, rfl, rfl, rfl⟩
 have h := ite_f hb105 h
 iterate 4 refine Of 79 rfl rfl hb105 rfl ?_
 refine Pu (.bool false) (PO.pickF rfl hb105 rfl) rfl ?_
 refine WL.nil ?_
 refine WQ.f2 ?_
 refine WQ.f3 ?_
 refine WQ.f3 ?_
 refine WQ.f3 ?_
 obtain rfl := Option.some.inj h
 refine WQ.thenJ ?_
 exact ⟨(IM.le.refl _), rfl, hs48_2, hs48_7, hs48_8, hs48_9, hs48_12, rfl, rfl, rfl, rfl⟩
 rintro ρ104 M104 H104 ⟨hle104, rfl, hs104_2, hs104_7, hs104_8, hs104_9, hs104_12, hs104_13, hs104_15, hs104_19, hs104_84⟩
 have h2 := h2.mono hle104
 have hq79_10 := hq79_10.mono hle104
 have hq77_4 := hq77_4.mono hle104
 have hx54 := hx54.mono hle104
 refine WC.cond (b := x103) hs104_84 (fun hb113 => ?_) (fun hb113 => ?_)
 have h := ite_t hb113 h
 refine WC.region ?_
 refine Pm (.int .i64 (IntKind.i64.wrap ((1 : Int) + ((IntKind.i64.wrap a1).tmod (IntKind.i64.wrap ((1 : Int) + ((IntKind.i64.wrap a0).tmod (7 : Int)))))))) hs104_8 rfl ?_
 refine Pa (.int .i64 (IntKind.i64.wrap ((1 : Int) + ((IntKind.i64.wrap a1).tmod (IntKind.i64.wrap ((1 : Int) + ((IntKind.i64.wrap a0).tmod (7 : Int)))))))) rfl rfl ?_
 refine WL.nil ?_
 obtain rfl := Option.some.inj h
 refine WQ.thenJ ?_
 exact ⟨hle104, rfl, hs104_2, hs104_7, hs104_8, hs104_9, hs104_12, hs104_13, hs104_15, rfl⟩
 have h := ite_f hb113 h
 refine WC.skip ?_
 obtain rfl := Option.some.inj h
 refine WQ.thenJ ?_
 exact ⟨hle104, rfl, hs104_2, hs104_7, hs104_8, hs104_9, hs104_12, hs104_13, hs104_15, hs104_19⟩
 rintro ρ102 M102 H102 ⟨hle102, rfl, hs102_2, hs102_7, hs102_8, hs102_9, hs102_12, hs102_13, hs102_15, hs102_19⟩
 have h2 := h2.mono hle102
 have hq79_10 := hq79_10.mono hle102
 have hq77_4 := hq77_4.mono hle102
 have hx54 := hx54.mono hle102
 refine Sr ?_
 refine Pu (.agg #[(.int .i64 r70.Id), (.int .i64 r70.Serial), (.int .i64 r70.Voters), (.int .i64 r70.Node), vq77_4, (.int .i64 r70.Tries)]) (PO.loadBA (cs := [(.int .i64 r70.Id), (.int .i64 r70.Serial), (.int .i64 r70.Voters), (.int .i64 r70.Node), vq77_4, (.int .i64 r70.Tries)]) 1 ag24 sz24 hs102_13 rfl rfl) rfl ?_
 refine Pu (.pointer (some ⟨g82, 1, none⟩)) (PO.fieldAddr fo29_1 hs102_15 rfl) rfl ?_
 refine Pu (.int .i64 r72.Serial) (PO.loadB 0 pl3 rfl rfl rfl) rfl ?_
 refine Pm (.int .i64 x101) hs102_19 rfl ?_
 refine Pu (.agg #[(.int .i64 (1 : Int)), (.int .i64 r72.Serial), (.int .i64 (12 : Int)), (.int .i64 x101), (.bool false), (.bool false), (.bool false)]) (PO.buildL (cl := [(.int .i64 (1 : Int)), (.int .i64 r72.Serial), (.int .i64 (12 : Int)), (.int .i64 x101), (.bool false), (.bool false), (.bool false)]) ze33 fp33 (Parts.cons (congrArg Value.cells (show ev _ _ = (.int .i64 (1 : Int)) from rfl)) (Parts.cons (congrArg Value.cells (show ev _ _ = (.int .i64 r72.Serial) from rfl)) (Parts.cons (congrArg Value.cells (show ev _ _ = (.int .i64 (12 : Int)) from rfl)) (Parts.cons (congrArg Value.cells (show ev _ _ = (.int .i64 x101) from rfl)) Parts.nil)))) rfl) rfl ?_
 obtain ⟨⟨r114, r115⟩, hr116, h⟩ := bnd h
 refine WL.eff (EO.call0 co12 (f_client_Heard_ok r70 (⟨(1 : Int), r72.Serial, (12 : Int), x101, (⟨false, false, false⟩ : T_api_Told)⟩ : T_api_Reply) _ _ hq77_4 (r114, r115) hr116) (args2 rfl rfl)) rfl ?_
 rintro _ M117 _ hle118 ⟨_, ⟨vq119_4, rfl, rfl, hq119_4⟩, rfl⟩
 have h2 := h2.mono hle118
 have hq77_4 := hq77_4.mono hle118
 have hq79_10 := hq79_10.mono hle118
 have hx54 := hx54.mono hle118
 refine WL.a0 ?_
 refine Pm (.tuple #[(.agg #[(.int .i64 r114.Id), (.int .i64 r114.Serial), (.int .i64 r114.Voters), (.int .i64 r114.Node), vq119_4, (.int .i64 r114.Tries)]), (.bool r115)]) rfl rfl ?_
 refine Pu (.agg #[(.int .i64 r114.Id), (.int .i64 r114.Serial), (.int .i64 r114.Voters), (.int .i64 r114.Node), vq119_4, (.int .i64 r114.Tries)]) (PO.extract rfl rfl) rfl ?_
 refine Pu (.bool r115) (PO.extract rfl rfl) rfl ?_
 refine WL.eff (EO.alloc ze24 rfl) rfl ?_
 rintro _ _ _ - ⟨rfl, g121, rfl, rfl⟩
 refine WL.eff (EO.storeL (v := (.agg #[(.int .i64 r114.Id), (.int .i64 r114.Serial), (.int .i64 r114.Voters), (.int .i64 r114.Node), vq119_4, (.int .i64 r114.Tries)])) (vl := [(.int .i64 r114.Id), (.int .i64 r114.Serial), (.int .i64 r114.Voters), (.int .i64 r114.Node), vq119_4, (.int .i64 r114.Tries)]) (arr' := [(.int .i64 r114.Id), (.int .i64 r114.Serial), (.int .i64 r114.Voters), (.int .i64 r114.Node), vq119_4, (.int .i64 r114.Tries)]) rfl sz24 rfl rfl (onesOf (Ones.cons rfl (Ones.cons rfl (Ones.cons rfl (Ones.cons rfl (Ones.cons (RS.one hq119_4) (Ones.cons rfl Ones.nil))))))) rfl rfl rfl) rfl ?_
 rintro _ _ _ - ⟨rfl, rfl⟩
 refine Pa (.bool r115) rfl rfl ?_
 refine Nt ?_
 refine WC.seq ?_
 refine Sr ?_
 refine Pm (.bool r115) rfl rfl ?_
 refine Nt ?_
 refine WC.cond (b := r115) rfl (fun hb122 => ?_) (fun hb122 => ?_)
 have h := ite_t hb122 h
 refine Sr ?_
 refine Pa (.bool false) rfl rfl ?_
 refine Nt ?_
 refine WC.ret ?_
 refine WQ.thenR ?_
 refine WQ.blockR ?_
 refine WQ.thenR ?_
 refine WQ.leaveR (Sum.inr (false, x50, x51, x52, x53, x54, x55)) (Option.some.inj h).symm (fun heq48 => ?_)
 subst heq48
 have h := (elimR hK48)
 refine WQ.blockR ?_
 refine WQ.thenR ?_
 have h := KK.early h h347
 refine WQ.drop ?_
 refine WQ.drop ?_
 refine WQ.drop ?_
 refine WQ.drop ?_
 refine WQ.drop ?_
 exact WQ.returnsF h [] rfl (results1 rfl rfl) ((((((hle26.trans hle31).trans hle37).trans hle48).trans hle76).trans hle102).trans hle118) ⟨rfl, rfl⟩
 have h := ite_f hb122 h
 refine WC.skip ?_
 refine WQ.thenC ?_
 refine WC.region ?_
 refine Pu (.agg #[(.int .i64 r114.Id), (.int .i64 r114.Serial), (.int .i64 r114.Voters), (.int .i64 r114.Node), vq119_4, (.int .i64 r114.Tries)]) (PO.loadBA (cs := [(.int .i64 r114.Id), (.int .i64 r114.Serial), (.int .i64 r114.Voters), (.int .i64 r114.Node), vq119_4, (.int .i64 r114.Tries)]) 0 ag24 sz24 rfl rfl rfl) rfl ?_
 refine WL.f3 ?_
 refine WL.eff (EO.storeL (v := (.agg #[(.int .i64 r114.Id), (.int .i64 r114.Serial), (.int .i64 r114.Voters), (.int .i64 r114.Node), vq119_4, (.int .i64 r114.Tries)])) (vl := [(.int .i64 r114.Id), (.int .i64 r114.Serial), (.int .i64 r114.Voters), (.int .i64 r114.Node), vq119_4, (.int .i64 r114.Tries)]) (arr' := [(.int .i64 r114.Id), (.int .i64 r114.Serial), (.int .i64 r114.Voters), (.int .i64 r114.Node), vq119_4, (.int .i64 r114.Tries)]) rfl sz24 hs102_9 rfl (onesOf (Ones.cons rfl (Ones.cons rfl (Ones.cons rfl (Ones.cons rfl (Ones.cons (RS.one hq119_4) (Ones.cons rfl Ones.nil))))))) rfl rfl rfl) rfl ?_
 rintro _ _ _ - ⟨rfl, rfl⟩
 refine WL.nil ?_
 refine WQ.blockN ?_
 refine WQ.thenC ?_
 refine WC.region ?_
 refine Pm (.int .i64 x49) hs102_12 rfl ?_
 refine Pu (.int .i64 (IntKind.i64.wrap (x49 + (1 : Int)))) (PO.add rfl rfl) rfl ?_
 refine Pa (.int .i64 (IntKind.i64.wrap (x49 + (1 : Int)))) rfl rfl ?_
 refine WL.nil ?_
 refine WQ.f1 ?_
 refine WQ.drop ?_
 refine WQ.f1 ?_
 refine WQ.drop ?_
 refine WQ.f1 ?_
 refine WQ.drop ?_
 refine WQ.f1 ?_
 refine WQ.drop ?_
 refine WQ.again (IntKind.i64.wrap (x49 + (1 : Int)), r114.Id, r114.Serial, r114.Voters, r114.Node, r114.Open, r114.Tries) (Option.some.inj h).symm ?_
 exact ⟨vq119_4, (((hle48.trans hle76).trans hle102).trans hle118), rfl, hs102_2, hs102_7, hs102_8, hs102_9, rfl, hq119_4⟩
 have h := ite_f hb69 h
 refine WC.exit ?_
 refine WQ.thenE ?_
 refine WQ.leaveE (Sum.inl (x50, x51, x52, x53, x54, x55)) (Option.some.inj h).symm (fun heq48 => ?_)
 subst heq48
 have h := elimL hK48
 refine WQ.blockH ?_
 refine WQ.thenFE h ?_
 exact ⟨vx54, hle48, rfl, hx54⟩
 rintro ⟨x41, x42, x43, x44, x45, x46⟩ ρ47 M47 H47 rfl ⟨vx45, hle47, rfl, hx45⟩
 refine Sr ?_
 refine Pa (.bool false) rfl rfl ?_
 refine Nt ?_
 refine WC.ret ?_
 refine WQ.drop ?_
 exact WQ.returnsF h [] rfl (results1 rfl rfl) (((hle26.trans hle31).trans hle37).trans hle47) ⟨rfl, rfl⟩


end Go.Proofs.Ytdlilclopmhiaaa.G
