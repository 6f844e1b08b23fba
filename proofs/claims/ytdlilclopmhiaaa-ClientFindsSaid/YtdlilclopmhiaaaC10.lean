/- Go functions: what they come to, and that they do. Printed by a program of the session (gen). -/
import Derived.Test.YtdlilclopmhiaaaCF
import Derived.Test.YtdlilclopmhiaaaC9
set_option linter.unusedVariables false
set_option linter.unusedSimpArgs false
namespace Go.Proofs.Ytdlilclopmhiaaa.G
open Go Go.KK

noncomputable def f_law28_works : Option Bool :=
  ((f_client_New (9 : Int) (3 : Int)).bind fun (r21, r22) => ((f_client_New (9 : Int) (8 : Int)).bind fun (r29, r30) => ((f_client_Begin r21 (⟨(0 : Int), (0 : Int), (2 : Int), (⟨#[116]⟩ : ByteArray), (⟨#[]⟩ : ByteArray), (⟨#[]⟩ : ByteArray), false, (0 : Int), (0 : Int), (0 : Int), [], (0 : Int), (0 : Int), (⟨#[]⟩ : ByteArray), (⟨(0 : Int), (0 : Int), (0 : Int), false, false⟩ : T_api_Word)⟩ : T_api_Request)).bind fun (r39, r40) => ((f_client_Begin r39 (⟨(0 : Int), (0 : Int), (2 : Int), (⟨#[116]⟩ : ByteArray), (⟨#[]⟩ : ByteArray), (⟨#[]⟩ : ByteArray), false, (0 : Int), (0 : Int), (0 : Int), [], (0 : Int), (0 : Int), (⟨#[]⟩ : ByteArray), (⟨(0 : Int), (0 : Int), (0 : Int), false, false⟩ : T_api_Word)⟩ : T_api_Request)).bind fun (r46, r47) => ((f_client_Ask r39).bind fun (r54, r55, r56, r57) => ((f_client_Heard r54 (⟨(9 : Int), (1 : Int), (12 : Int), (3 : Int), (⟨false, false, false⟩ : T_api_Told)⟩ : T_api_Reply)).bind fun (r67, r68) => ((f_client_Heard r67 (⟨(9 : Int), (1 : Int), (8 : Int), (0 : Int), (⟨false, false, false⟩ : T_api_Told)⟩ : T_api_Reply)).bind fun (r75, r76) => ((f_client_Ask r75).bind fun (r83, r84, r85, r86) => (((if r22.isNil = true then ((f_fault_Is r30 (2 : Int)).bind fun (r99 : Bool) => (if r99 = true then (if r40.isNil = true then ((f_fault_Is r47 (10 : Int)).bind fun (r106 : Bool) => (if r106 = true then (if (decide (r55 = (1 : Int))) = true then (if (decide (r56.Serial = (1 : Int))) = true then (if (decide (r56.Client = (9 : Int))) = true then (if r57 = true then (if (!r68) = true then (if (decide (r67.Node = (3 : Int))) = true then (if r76 = true then (if (decide ((r75.Open.length : Int) = (0 : Int))) = true then (if (!r86) = true then ((f_client_Lost r67).bind fun (r121 : T_api_Client) => (if (decide (r121.Node = (1 : Int))) = true then ((f_client_Check r75).bind fun (r127 : GErr) => (if r127.isNil = true then ((f_client_Same r67 r67).bind fun (r133 : Bool) => (if r133 = true then ((f_client_Same r67 r75).bind fun (r139 : Bool) => (some (!r139))) else (some false))) else (some false))) else (some false))) else (some false)) else (some false)) else (some false)) else (some false)) else (some false)) else (some false)) else (some false)) else (some false)) else (some false)) else (some false))) else (some false)) else (some false))) else (some false)) : Option Bool).bind fun (x96 : Bool) => (some x96))))))))))
def f_law28_works_post : Bool → Value → IM → HL → Prop :=
  fun (r0 : Bool) (v : Value) (M' : IM) (H' : HL) => (.bool r0) = v ∧ H' = []
set_option maxHeartbeats 8000000 in
set_option maxRecDepth 100000 in
theorem f_law28_works_ok (M : IM) (res : Bool) (h : f_law28_works = some res) :
    Tri Try.prog 9 #[] M [] (f_law28_works_post res) := by
 unfold f_law28_works at h
 refine Tri.enter (fn := Try.f9) Try.func9 rfl (Nat.le_of_ble_eq_true rfl) ?_
 intro F ρ hρ
 refine Sr ?_
 refine Pa (.bool false) rfl rfl ?_
 refine Ns ?_
 obtain ⟨⟨r21, r22⟩, hr23, h⟩ := bnd h
 refine WL.eff (EO.call0 co15 (f_client_New_ok (9 : Int) (3 : Int) _ (r21, r22) hr23) (args2 rfl rfl)) rfl ?_
 rintro _ M24 _ hle25 ⟨_, ⟨vq26_4, cq26_4, rfl, rfl, hq26_4⟩, rfl⟩
 refine WL.a1 ?_
 refine Pm (.tuple #[(.agg #[(.int .i64 r21.Id), (.int .i64 r21.Serial), (.int .i64 r21.Voters), (.int .i64 r21.Node), vq26_4, (.int .i64 r21.Tries)]), (GV r22)]) rfl rfl ?_
 refine Pu (.agg #[(.int .i64 r21.Id), (.int .i64 r21.Serial), (.int .i64 r21.Voters), (.int .i64 r21.Node), vq26_4, (.int .i64 r21.Tries)]) (PO.extract rfl rfl) rfl ?_
 refine Pu (GV r22) (PO.extract rfl rfl) rfl ?_
 refine WL.eff (EO.alloc ze24 rfl) rfl ?_
 rintro _ _ _ - ⟨rfl, g28, rfl, rfl⟩
 refine WL.eff (EO.storeL (v := (.agg #[(.int .i64 r21.Id), (.int .i64 r21.Serial), (.int .i64 r21.Voters), (.int .i64 r21.Node), vq26_4, (.int .i64 r21.Tries)])) (vl := [(.int .i64 r21.Id), (.int .i64 r21.Serial), (.int .i64 r21.Voters), (.int .i64 r21.Node), vq26_4, (.int .i64 r21.Tries)]) (arr' := [(.int .i64 r21.Id), (.int .i64 r21.Serial), (.int .i64 r21.Voters), (.int .i64 r21.Node), vq26_4, (.int .i64 r21.Tries)]) rfl sz24 rfl rfl (onesOf (Ones.cons rfl (Ones.cons rfl (Ones.cons rfl (Ones.cons rfl (Ones.cons (OwnS.one hq26_4) (Ones.cons rfl Ones.nil))))))) rfl rfl rfl) rfl ?_
 rintro _ _ _ - ⟨rfl, rfl⟩
 refine Pa (GV r22) rfl rfl ?_
 refine Ns ?_
 obtain ⟨⟨r29, r30⟩, hr31, h⟩ := bnd h
 refine WL.eff (EO.call0 co15 (f_client_New_ok (9 : Int) (8 : Int) _ (r29, r30) hr31) (args2 rfl rfl)) rfl ?_
 rintro _ M32 _ hle33 ⟨_, ⟨vq34_4, cq34_4, rfl, rfl, hq34_4⟩, rfl⟩
 have hq26_4 := hq26_4.mono hle33
 refine WL.a1 ?_
 refine Pm (.tuple #[(.agg #[(.int .i64 r29.Id), (.int .i64 r29.Serial), (.int .i64 r29.Voters), (.int .i64 r29.Node), vq34_4, (.int .i64 r29.Tries)]), (GV r30)]) rfl rfl ?_
 refine Pu (.agg #[(.int .i64 r29.Id), (.int .i64 r29.Serial), (.int .i64 r29.Voters), (.int .i64 r29.Node), vq34_4, (.int .i64 r29.Tries)]) (PO.extract rfl rfl) rfl ?_
 refine Pu (GV r30) (PO.extract rfl rfl) rfl ?_
 refine WL.eff (EO.alloc ze24 rfl) rfl ?_
 rintro _ _ _ - ⟨rfl, g36, rfl, rfl⟩
 refine WL.eff (EO.storeL (v := (.agg #[(.int .i64 r29.Id), (.int .i64 r29.Serial), (.int .i64 r29.Voters), (.int .i64 r29.Node), vq34_4, (.int .i64 r29.Tries)])) (vl := [(.int .i64 r29.Id), (.int .i64 r29.Serial), (.int .i64 r29.Voters), (.int .i64 r29.Node), vq34_4, (.int .i64 r29.Tries)]) (arr' := [(.int .i64 r29.Id), (.int .i64 r29.Serial), (.int .i64 r29.Voters), (.int .i64 r29.Node), vq34_4, (.int .i64 r29.Tries)]) rfl sz24 rfl rfl (onesOf (Ones.cons rfl (Ones.cons rfl (Ones.cons rfl (Ones.cons rfl (Ones.cons (OwnS.one hq34_4) (Ones.cons rfl Ones.nil))))))) rfl rfl rfl) rfl ?_
 rintro _ _ _ - ⟨rfl, rfl⟩
 refine Pa (GV r30) rfl rfl ?_
 refine Ns ?_
 refine Pu (.agg #[(.int .i64 r21.Id), (.int .i64 r21.Serial), (.int .i64 r21.Voters), (.int .i64 r21.Node), vq26_4, (.int .i64 r21.Tries)]) (PO.loadBA (cs := [(.int .i64 r21.Id), (.int .i64 r21.Serial), (.int .i64 r21.Voters), (.int .i64 r21.Node), vq26_4, (.int .i64 r21.Tries)]) 2 ag24 sz24 rfl rfl rfl) rfl ?_
 refine Pu (.agg #[(.int .i64 (0 : Int)), (.int .i64 (0 : Int)), (.int .i64 (2 : Int)), (.string (⟨#[116]⟩ : ByteArray)), (.string (⟨#[]⟩ : ByteArray)), (.string (⟨#[]⟩ : ByteArray)), (.bool false), (.int .i64 (0 : Int)), (.int .i64 (0 : Int)), (.int .i64 (0 : Int)), (.slice none 0 0), (.int .i64 (0 : Int)), (.int .i64 (0 : Int)), (.string (⟨#[]⟩ : ByteArray)), (.int .i64 (0 : Int)), (.int .i64 (0 : Int)), (.int .i64 (0 : Int)), (.bool false), (.bool false)]) (PO.buildL (cl := [(.int .i64 (0 : Int)), (.int .i64 (0 : Int)), (.int .i64 (2 : Int)), (.string (⟨#[116]⟩ : ByteArray)), (.string (⟨#[]⟩ : ByteArray)), (.string (⟨#[]⟩ : ByteArray)), (.bool false), (.int .i64 (0 : Int)), (.int .i64 (0 : Int)), (.int .i64 (0 : Int)), (.slice none 0 0), (.int .i64 (0 : Int)), (.int .i64 (0 : Int)), (.string (⟨#[]⟩ : ByteArray)), (.int .i64 (0 : Int)), (.int .i64 (0 : Int)), (.int .i64 (0 : Int)), (.bool false), (.bool false)]) ze29 fp29 (Parts.cons (congrArg Value.cells (show ev _ _ = (.int .i64 (2 : Int)) from rfl)) (Parts.cons (congrArg Value.cells (show ev _ _ = (.string (⟨#[116]⟩ : ByteArray)) from rfl)) Parts.nil)) rfl) rfl ?_
 refine WL.f3 ?_
 refine WL.know (fun _ hs => hq26_4.rs hs) (fun hf38 => ?_)
 refine WL.freeze (fun hle37 => ?_)
 have hq34_4 := hq34_4.mono hle37
 obtain ⟨⟨r39, r40⟩, hr41, h⟩ := bnd h
 refine WL.eff (EO.call0 co10 (f_client_Begin_ok r21 (⟨(0 : Int), (0 : Int), (2 : Int), (⟨#[116]⟩ : ByteArray), (⟨#[]⟩ : ByteArray), (⟨#[]⟩ : ByteArray), false, (0 : Int), (0 : Int), (0 : Int), [], (0 : Int), (0 : Int), (⟨#[]⟩ : ByteArray), (⟨(0 : Int), (0 : Int), (0 : Int), false, false⟩ : T_api_Word)⟩ : T_api_Request) _ _ _ hf38 (RS.nil _ _) (r39, r40) hr41) (args2 rfl rfl)) rfl ?_
 rintro _ M42 _ hle43 ⟨_, ⟨vq44_4, rfl, rfl, hq44_4⟩, rfl⟩
 have hf38 := hf38.mono hle43
 have hq34_4 := hq34_4.mono hle43
 refine WL.a0 ?_
 refine Pm (.tuple #[(.agg #[(.int .i64 r39.Id), (.int .i64 r39.Serial), (.int .i64 r39.Voters), (.int .i64 r39.Node), vq44_4, (.int .i64 r39.Tries)]), (GV r40)]) rfl rfl ?_
 refine Pu (.agg #[(.int .i64 r39.Id), (.int .i64 r39.Serial), (.int .i64 r39.Voters), (.int .i64 r39.Node), vq44_4, (.int .i64 r39.Tries)]) (PO.extract rfl rfl) rfl ?_
 refine Pu (GV r40) (PO.extract rfl rfl) rfl ?_
 refine WL.f2 ?_
 refine WL.eff (EO.storeL (v := (.agg #[(.int .i64 r39.Id), (.int .i64 r39.Serial), (.int .i64 r39.Voters), (.int .i64 r39.Node), vq44_4, (.int .i64 r39.Tries)])) (vl := [(.int .i64 r39.Id), (.int .i64 r39.Serial), (.int .i64 r39.Voters), (.int .i64 r39.Node), vq44_4, (.int .i64 r39.Tries)]) (arr' := [(.int .i64 r39.Id), (.int .i64 r39.Serial), (.int .i64 r39.Voters), (.int .i64 r39.Node), vq44_4, (.int .i64 r39.Tries)]) rfl sz24 rfl rfl (onesOf (Ones.cons rfl (Ones.cons rfl (Ones.cons rfl (Ones.cons rfl (Ones.cons (RS.one hq44_4) (Ones.cons rfl Ones.nil))))))) rfl rfl rfl) rfl ?_
 rintro _ _ _ - ⟨rfl, rfl⟩
 refine Pa (GV r40) rfl rfl ?_
 refine Ns ?_
 refine Pu (.agg #[(.int .i64 r39.Id), (.int .i64 r39.Serial), (.int .i64 r39.Voters), (.int .i64 r39.Node), vq44_4, (.int .i64 r39.Tries)]) (PO.loadBA (cs := [(.int .i64 r39.Id), (.int .i64 r39.Serial), (.int .i64 r39.Voters), (.int .i64 r39.Node), vq44_4, (.int .i64 r39.Tries)]) 0 ag24 sz24 rfl rfl rfl) rfl ?_
 refine Pu (.agg #[(.int .i64 (0 : Int)), (.int .i64 (0 : Int)), (.int .i64 (2 : Int)), (.string (⟨#[116]⟩ : ByteArray)), (.string (⟨#[]⟩ : ByteArray)), (.string (⟨#[]⟩ : ByteArray)), (.bool false), (.int .i64 (0 : Int)), (.int .i64 (0 : Int)), (.int .i64 (0 : Int)), (.slice none 0 0), (.int .i64 (0 : Int)), (.int .i64 (0 : Int)), (.string (⟨#[]⟩ : ByteArray)), (.int .i64 (0 : Int)), (.int .i64 (0 : Int)), (.int .i64 (0 : Int)), (.bool false), (.bool false)]) (PO.buildL (cl := [(.int .i64 (0 : Int)), (.int .i64 (0 : Int)), (.int .i64 (2 : Int)), (.string (⟨#[116]⟩ : ByteArray)), (.string (⟨#[]⟩ : ByteArray)), (.string (⟨#[]⟩ : ByteArray)), (.bool false), (.int .i64 (0 : Int)), (.int .i64 (0 : Int)), (.int .i64 (0 : Int)), (.slice none 0 0), (.int .i64 (0 : Int)), (.int .i64 (0 : Int)), (.string (⟨#[]⟩ : ByteArray)), (.int .i64 (0 : Int)), (.int .i64 (0 : Int)), (.int .i64 (0 : Int)), (.bool false), (.bool false)]) ze29 fp29 (Parts.cons (congrArg Value.cells (show ev _ _ = (.int .i64 (2 : Int)) from rfl)) (Parts.cons (congrArg Value.cells (show ev _ _ = (.string (⟨#[116]⟩ : ByteArray)) from rfl)) Parts.nil)) rfl) rfl ?_
 obtain ⟨⟨r46, r47⟩, hr48, h⟩ := bnd h
 refine WL.eff (EO.call0 co10 (f_client_Begin_ok r39 (⟨(0 : Int), (0 : Int), (2 : Int), (⟨#[116]⟩ : ByteArray), (⟨#[]⟩ : ByteArray), (⟨#[]⟩ : ByteArray), false, (0 : Int), (0 : Int), (0 : Int), [], (0 : Int), (0 : Int), (⟨#[]⟩ : ByteArray), (⟨(0 : Int), (0 : Int), (0 : Int), false, false⟩ : T_api_Word)⟩ : T_api_Request) _ _ _ hq44_4 (RS.nil _ _) (r46, r47) hr48) (args2 rfl rfl)) rfl ?_
 rintro _ M49 _ hle50 ⟨_, ⟨vq51_4, rfl, rfl, hq51_4⟩, rfl⟩
 have hq44_4 := hq44_4.mono hle50
 have hq34_4 := hq34_4.mono hle50
 refine WL.a0 ?_
 refine Pm (.tuple #[(.agg #[(.int .i64 r46.Id), (.int .i64 r46.Serial), (.int .i64 r46.Voters), (.int .i64 r46.Node), vq51_4, (.int .i64 r46.Tries)]), (GV r47)]) rfl rfl ?_
 refine Pu (.agg #[(.int .i64 r46.Id), (.int .i64 r46.Serial), (.int .i64 r46.Voters), (.int .i64 r46.Node), vq51_4, (.int .i64 r46.Tries)]) (PO.extract rfl rfl) rfl ?_
 refine Pu (GV r47) (PO.extract rfl rfl) rfl ?_
 refine WL.eff (EO.alloc ze24 rfl) rfl ?_
 rintro _ _ _ - ⟨rfl, g53, rfl, rfl⟩
 refine WL.eff (EO.storeL (v := (.agg #[(.int .i64 r46.Id), (.int .i64 r46.Serial), (.int .i64 r46.Voters), (.int .i64 r46.Node), vq51_4, (.int .i64 r46.Tries)])) (vl := [(.int .i64 r46.Id), (.int .i64 r46.Serial), (.int .i64 r46.Voters), (.int .i64 r46.Node), vq51_4, (.int .i64 r46.Tries)]) (arr' := [(.int .i64 r46.Id), (.int .i64 r46.Serial), (.int .i64 r46.Voters), (.int .i64 r46.Node), vq51_4, (.int .i64 r46.Tries)]) rfl sz24 rfl rfl (onesOf (Ones.cons rfl (Ones.cons rfl (Ones.cons rfl (Ones.cons rfl (Ones.cons (RS.one hq51_4) (Ones.cons rfl Ones.nil))))))) rfl rfl rfl) rfl ?_
 rintro _ _ _ - ⟨rfl, rfl⟩
 refine Pa (GV r47) rfl rfl ?_
 refine Ns ?_
 refine Pu (.agg #[(.int .i64 r39.Id), (.int .i64 r39.Serial), (.int .i64 r39.Voters), (.int .i64 r39.Node), vq44_4, (.int .i64 r39.Tries)]) (PO.loadBA (cs := [(.int .i64 r39.Id), (.int .i64 r39.Serial), (.int .i64 r39.Voters), (.int .i64 r39.Node), vq44_4, (.int .i64 r39.Tries)]) 1 ag24 sz24 rfl rfl rfl) rfl ?_
 obtain ⟨⟨r54, r55, r56, r57⟩, hr58, h⟩ := bnd h
 refine WL.eff (EO.call0 co11 (f_client_Ask_ok r39 _ _ hq44_4 (r54, r55, r56, r57) hr58) (args1 rfl)) rfl ?_
 rintro _ M59 _ hle60 ⟨_, ⟨vq61_4, vq63_10, cq63_10, rfl, rfl, hq61_4, hq63_10⟩, rfl⟩
 have hq44_4 := hq44_4.mono hle60
 have hq34_4 := hq34_4.mono hle60
 have hq51_4 := hq51_4.mono hle60
 refine WL.a1 ?_
 refine Pm (.tuple #[(.agg #[(.int .i64 r54.Id), (.int .i64 r54.Serial), (.int .i64 r54.Voters), (.int .i64 r54.Node), vq61_4, (.int .i64 r54.Tries)]), (.int .i64 r55), (.agg #[(.int .i64 r56.Client), (.int .i64 r56.Serial), (.int .i64 r56.Kind), (.string r56.Name), (.string r56.Key), (.string r56.Value), (.bool r56.Flag), (.int .i64 r56.Parts), (.int .i64 r56.Replicas), (.int .i64 r56.Part), vq63_10, (.int .i64 r56.Broker), (.int .i64 r56.Epoch), (.string r56.Rack), (.int .i64 r56.Word.Broker), (.int .i64 r56.Word.Epoch), (.int .i64 r56.Word.High), (.bool r56.Word.Fence), (.bool r56.Word.Leave)]), (.bool r57)]) rfl rfl ?_
 refine Pu (.agg #[(.int .i64 r54.Id), (.int .i64 r54.Serial), (.int .i64 r54.Voters), (.int .i64 r54.Node), vq61_4, (.int .i64 r54.Tries)]) (PO.extract rfl rfl) rfl ?_
 refine Pu (.int .i64 r55) (PO.extract rfl rfl) rfl ?_
 refine Pu (.agg #[(.int .i64 r56.Client), (.int .i64 r56.Serial), (.int .i64 r56.Kind), (.string r56.Name), (.string r56.Key), (.string r56.Value), (.bool r56.Flag), (.int .i64 r56.Parts), (.int .i64 r56.Replicas), (.int .i64 r56.Part), vq63_10, (.int .i64 r56.Broker), (.int .i64 r56.Epoch), (.string r56.Rack), (.int .i64 r56.Word.Broker), (.int .i64 r56.Word.Epoch), (.int .i64 r56.Word.High), (.bool r56.Word.Fence), (.bool r56.Word.Leave)]) (PO.extract rfl rfl) rfl ?_
 refine Pu (.bool r57) (PO.extract rfl rfl) rfl ?_
 refine WL.eff (EO.alloc ze24 rfl) rfl ?_
 rintro _ _ _ - ⟨rfl, g65, rfl, rfl⟩
 refine WL.eff (EO.alloc ze29 rfl) rfl ?_
 rintro _ _ _ - ⟨rfl, g66, rfl, rfl⟩
 refine WL.f1 ?_
 refine WL.eff (EO.storeL (v := (.agg #[(.int .i64 r54.Id), (.int .i64 r54.Serial), (.int .i64 r54.Voters), (.int .i64 r54.Node), vq61_4, (.int .i64 r54.Tries)])) (vl := [(.int .i64 r54.Id), (.int .i64 r54.Serial), (.int .i64 r54.Voters), (.int .i64 r54.Node), vq61_4, (.int .i64 r54.Tries)]) (arr' := [(.int .i64 r54.Id), (.int .i64 r54.Serial), (.int .i64 r54.Voters), (.int .i64 r54.Node), vq61_4, (.int .i64 r54.Tries)]) rfl sz24 rfl rfl (onesOf (Ones.cons rfl (Ones.cons rfl (Ones.cons rfl (Ones.cons rfl (Ones.cons (RS.one hq61_4) (Ones.cons rfl Ones.nil))))))) rfl rfl rfl) rfl ?_
 rintro _ _ _ - ⟨rfl, rfl⟩
 refine Pa (.int .i64 r55) rfl rfl ?_
 refine WL.f1 ?_
 refine WL.eff (EO.storeL (v := (.agg #[(.int .i64 r56.Client), (.int .i64 r56.Serial), (.int .i64 r56.Kind), (.string r56.Name), (.string r56.Key), (.string r56.Value), (.bool r56.Flag), (.int .i64 r56.Parts), (.int .i64 r56.Replicas), (.int .i64 r56.Part), vq63_10, (.int .i64 r56.Broker), (.int .i64 r56.Epoch), (.string r56.Rack), (.int .i64 r56.Word.Broker), (.int .i64 r56.Word.Epoch), (.int .i64 r56.Word.High), (.bool r56.Word.Fence), (.bool r56.Word.Leave)])) (vl := [(.int .i64 r56.Client), (.int .i64 r56.Serial), (.int .i64 r56.Kind), (.string r56.Name), (.string r56.Key), (.string r56.Value), (.bool r56.Flag), (.int .i64 r56.Parts), (.int .i64 r56.Replicas), (.int .i64 r56.Part), vq63_10, (.int .i64 r56.Broker), (.int .i64 r56.Epoch), (.string r56.Rack), (.int .i64 r56.Word.Broker), (.int .i64 r56.Word.Epoch), (.int .i64 r56.Word.High), (.bool r56.Word.Fence), (.bool r56.Word.Leave)]) (arr' := [(.int .i64 r56.Client), (.int .i64 r56.Serial), (.int .i64 r56.Kind), (.string r56.Name), (.string r56.Key), (.string r56.Value), (.bool r56.Flag), (.int .i64 r56.Parts), (.int .i64 r56.Replicas), (.int .i64 r56.Part), vq63_10, (.int .i64 r56.Broker), (.int .i64 r56.Epoch), (.string r56.Rack), (.int .i64 r56.Word.Broker), (.int .i64 r56.Word.Epoch), (.int .i64 r56.Word.High), (.bool r56.Word.Fence), (.bool r56.Word.Leave)]) rfl sz29 rfl rfl (onesOf (Ones.cons rfl (Ones.cons rfl (Ones.cons rfl (Ones.cons rfl (Ones.cons rfl (Ones.cons rfl (Ones.cons rfl (Ones.cons rfl (Ones.cons rfl (Ones.cons rfl (Ones.cons (OwnS.one hq63_10) (Ones.cons rfl (Ones.cons rfl (Ones.cons rfl (Ones.cons rfl (Ones.cons rfl (Ones.cons rfl (Ones.cons rfl (Ones.cons rfl Ones.nil)))))))))))))))))))) rfl rfl (by kernel_rfl)) rfl ?_
 rintro _ _ _ - ⟨rfl, rfl⟩
 refine Pa (.bool r57) rfl rfl ?_
 refine Ns ?_
 refine Pu (.agg #[(.int .i64 r54.Id), (.int .i64 r54.Serial), (.int .i64 r54.Voters), (.int .i64 r54.Node), vq61_4, (.int .i64 r54.Tries)]) (PO.loadBA (cs := [(.int .i64 r54.Id), (.int .i64 r54.Serial), (.int .i64 r54.Voters), (.int .i64 r54.Node), vq61_4, (.int .i64 r54.Tries)]) 1 ag24 sz24 rfl rfl rfl) rfl ?_
 refine Pu (.agg #[(.int .i64 (9 : Int)), (.int .i64 (1 : Int)), (.int .i64 (12 : Int)), (.int .i64 (3 : Int)), (.bool false), (.bool false), (.bool false)]) (PO.buildL (cl := [(.int .i64 (9 : Int)), (.int .i64 (1 : Int)), (.int .i64 (12 : Int)), (.int .i64 (3 : Int)), (.bool false), (.bool false), (.bool false)]) ze33 fp33 (Parts.cons (congrArg Value.cells (show ev _ _ = (.int .i64 (9 : Int)) from rfl)) (Parts.cons (congrArg Value.cells (show ev _ _ = (.int .i64 (1 : Int)) from rfl)) (Parts.cons (congrArg Value.cells (show ev _ _ = (.int .i64 (12 : Int)) from rfl)) (Parts.cons (congrArg Value.cells (show ev _ _ = (.int .i64 (3 : Int)) from rfl)) Parts.nil)))) rfl) rfl ?_
 obtain ⟨⟨r67, r68⟩, hr69, h⟩ := bnd h
 refine WL.eff (EO.call0 co12 (f_client_Heard_ok r54 (⟨(9 : Int), (1 : Int), (12 : Int), (3 : Int), (⟨false, false, false⟩ : T_api_Told)⟩ : T_api_Reply) _ _ hq61_4 (r67, r68) hr69) (args2 rfl rfl)) rfl ?_
 rintro _ M70 _ hle71 ⟨_, ⟨vq72_4, rfl, rfl, hq72_4⟩, rfl⟩
 have hq61_4 := hq61_4.mono hle71
 have hq44_4 := hq44_4.mono hle71
 have hq34_4 := hq34_4.mono hle71
 have hq51_4 := hq51_4.mono hle71
 have hq63_10 := hq63_10.mono hle71
 refine WL.a0 ?_
 refine Pm (.tuple #[(.agg #[(.int .i64 r67.Id), (.int .i64 r67.Serial), (.int .i64 r67.Voters), (.int .i64 r67.Node), vq72_4, (.int .i64 r67.Tries)]), (.bool r68)]) rfl rfl ?_
 refine Pu (.agg #[(.int .i64 r67.Id), (.int .i64 r67.Serial), (.int .i64 r67.Voters), (.int .i64 r67.Node), vq72_4, (.int .i64 r67.Tries)]) (PO.extract rfl rfl) rfl ?_
 refine Pu (.bool r68) (PO.extract rfl rfl) rfl ?_
 refine WL.eff (EO.alloc ze24 rfl) rfl ?_
 rintro _ _ _ - ⟨rfl, g74, rfl, rfl⟩
 refine WL.eff (EO.storeL (v := (.agg #[(.int .i64 r67.Id), (.int .i64 r67.Serial), (.int .i64 r67.Voters), (.int .i64 r67.Node), vq72_4, (.int .i64 r67.Tries)])) (vl := [(.int .i64 r67.Id), (.int .i64 r67.Serial), (.int .i64 r67.Voters), (.int .i64 r67.Node), vq72_4, (.int .i64 r67.Tries)]) (arr' := [(.int .i64 r67.Id), (.int .i64 r67.Serial), (.int .i64 r67.Voters), (.int .i64 r67.Node), vq72_4, (.int .i64 r67.Tries)]) rfl sz24 rfl rfl (onesOf (Ones.cons rfl (Ones.cons rfl (Ones.cons rfl (Ones.cons rfl (Ones.cons (RS.one hq72_4) (Ones.cons rfl Ones.nil))))))) rfl rfl rfl) rfl ?_
 rintro _ _ _ - ⟨rfl, rfl⟩
 refine Pa (.bool r68) rfl rfl ?_
 refine Ns ?_
 refine Pu (.agg #[(.int .i64 r67.Id), (.int .i64 r67.Serial), (.int .i64 r67.Voters), (.int .i64 r67.Node), vq72_4, (.int .i64 r67.Tries)]) (PO.loadBA (cs := [(.int .i64 r67.Id), (.int .i64 r67.Serial), (.int .i64 r67.Voters), (.int .i64 r67.Node), vq72_4, (.int .i64 r67.Tries)]) 0 ag24 sz24 rfl rfl rfl) rfl ?_
 refine Pu (.agg #[(.int .i64 (9 : Int)), (.int .i64 (1 : Int)), (.int .i64 (8 : Int)), (.int .i64 (0 : Int)), (.bool false), (.bool false), (.bool false)]) (PO.buildL (cl := [(.int .i64 (9 : Int)), (.int .i64 (1 : Int)), (.int .i64 (8 : Int)), (.int .i64 (0 : Int)), (.bool false), (.bool false), (.bool false)]) ze33 fp33 (Parts.cons (congrArg Value.cells (show ev _ _ = (.int .i64 (9 : Int)) from rfl)) (Parts.cons (congrArg Value.cells (show ev _ _ = (.int .i64 (1 : Int)) from rfl)) (Parts.cons (congrArg Value.cells (show ev _ _ = (.int .i64 (8 : Int)) from rfl)) Parts.nil))) rfl) rfl ?_
 obtain ⟨⟨r75, r76⟩, hr77, h⟩ := bnd h
 refine WL.eff (EO.call0 co12 (f_client_Heard_ok r67 (⟨(9 : Int), (1 : Int), (8 : Int), (0 : Int), (⟨false, false, false⟩ : T_api_Told)⟩ : T_api_Reply) _ _ hq72_4 (r75, r76) hr77) (args2 rfl rfl)) rfl ?_
 rintro _ M78 _ hle79 ⟨_, ⟨vq80_4, rfl, rfl, hq80_4⟩, rfl⟩
 have hq72_4 := hq72_4.mono hle79
 have hq44_4 := hq44_4.mono hle79
 have hq34_4 := hq34_4.mono hle79
 have hq51_4 := hq51_4.mono hle79
 have hq61_4 := hq61_4.mono hle79
 have hq63_10 := hq63_10.mono hle79
 refine WL.a0 ?_
 refine Pm (.tuple #[(.agg #[(.int .i64 r75.Id), (.int .i64 r75.Serial), (.int .i64 r75.Voters), (.int .i64 r75.Node), vq80_4, (.int .i64 r75.Tries)]), (.bool r76)]) rfl rfl ?_
 refine Pu (.agg #[(.int .i64 r75.Id), (.int .i64 r75.Serial), (.int .i64 r75.Voters), (.int .i64 r75.Node), vq80_4, (.int .i64 r75.Tries)]) (PO.extract rfl rfl) rfl ?_
 refine Pu (.bool r76) (PO.extract rfl rfl) rfl ?_
 refine WL.eff (EO.alloc ze24 rfl) rfl ?_
 rintro _ _ _ - ⟨rfl, g82, rfl, rfl⟩
 refine WL.eff (EO.storeL (v := (.agg #[(.int .i64 r75.Id), (.int .i64 r75.Serial), (.int .i64 r75.Voters), (.int .i64 r75.Node), vq80_4, (.int .i64 r75.Tries)])) (vl := [(.int .i64 r75.Id), (.int .i64 r75.Serial), (.int .i64 r75.Voters), (.int .i64 r75.Node), vq80_4, (.int .i64 r75.Tries)]) (arr' := [(.int .i64 r75.Id), (.int .i64 r75.Serial), (.int .i64 r75.Voters), (.int .i64 r75.Node), vq80_4, (.int .i64 r75.Tries)]) rfl sz24 rfl rfl (onesOf (Ones.cons rfl (Ones.cons rfl (Ones.cons rfl (Ones.cons rfl (Ones.cons (RS.one hq80_4) (Ones.cons rfl Ones.nil))))))) rfl rfl rfl) rfl ?_
 rintro _ _ _ - ⟨rfl, rfl⟩
 refine Pa (.bool r76) rfl rfl ?_
 refine Ns ?_
 refine Pu (.agg #[(.int .i64 r75.Id), (.int .i64 r75.Serial), (.int .i64 r75.Voters), (.int .i64 r75.Node), vq80_4, (.int .i64 r75.Tries)]) (PO.loadBA (cs := [(.int .i64 r75.Id), (.int .i64 r75.Serial), (.int .i64 r75.Voters), (.int .i64 r75.Node), vq80_4, (.int .i64 r75.Tries)]) 0 ag24 sz24 rfl rfl rfl) rfl ?_
 obtain ⟨⟨r83, r84, r85, r86⟩, hr87, h⟩ := bnd h
 refine WL.eff (EO.call0 co11 (f_client_Ask_ok r75 _ _ hq80_4 (r83, r84, r85, r86) hr87) (args1 rfl)) rfl ?_
 rintro _ M88 _ hle89 ⟨_, ⟨vq90_4, vq92_10, cq92_10, rfl, rfl, hq90_4, hq92_10⟩, rfl⟩
 have hq80_4 := hq80_4.mono hle89
 have hq44_4 := hq44_4.mono hle89
 have hq34_4 := hq34_4.mono hle89
 have hq51_4 := hq51_4.mono hle89
 have hq61_4 := hq61_4.mono hle89
 have hq63_10 := hq63_10.mono hle89
 have hq72_4 := hq72_4.mono hle89
 refine WL.a1 ?_
 refine Pm (.tuple #[(.agg #[(.int .i64 r83.Id), (.int .i64 r83.Serial), (.int .i64 r83.Voters), (.int .i64 r83.Node), vq90_4, (.int .i64 r83.Tries)]), (.int .i64 r84), (.agg #[(.int .i64 r85.Client), (.int .i64 r85.Serial), (.int .i64 r85.Kind), (.string r85.Name), (.string r85.Key), (.string r85.Value), (.bool r85.Flag), (.int .i64 r85.Parts), (.int .i64 r85.Replicas), (.int .i64 r85.Part), vq92_10, (.int .i64 r85.Broker), (.int .i64 r85.Epoch), (.string r85.Rack), (.int .i64 r85.Word.Broker), (.int .i64 r85.Word.Epoch), (.int .i64 r85.Word.High), (.bool r85.Word.Fence), (.bool r85.Word.Leave)]), (.bool r86)]) rfl rfl ?_
 refine Pu (.agg #[(.int .i64 r83.Id), (.int .i64 r83.Serial), (.int .i64 r83.Voters), (.int .i64 r83.Node), vq90_4, (.int .i64 r83.Tries)]) (PO.extract rfl rfl) rfl ?_
 refine Pu (.int .i64 r84) (PO.extract rfl rfl) rfl ?_
 refine Pu (.agg #[(.int .i64 r85.Client), (.int .i64 r85.Serial), (.int .i64 r85.Kind), (.string r85.Name), (.string r85.Key), (.string r85.Value), (.bool r85.Flag), (.int .i64 r85.Parts), (.int .i64 r85.Replicas), (.int .i64 r85.Part), vq92_10, (.int .i64 r85.Broker), (.int .i64 r85.Epoch), (.string r85.Rack), (.int .i64 r85.Word.Broker), (.int .i64 r85.Word.Epoch), (.int .i64 r85.Word.High), (.bool r85.Word.Fence), (.bool r85.Word.Leave)]) (PO.extract rfl rfl) rfl ?_
 refine Pu (.bool r86) (PO.extract rfl rfl) rfl ?_
 refine WL.eff (EO.alloc ze24 rfl) rfl ?_
 rintro _ _ _ - ⟨rfl, g94, rfl, rfl⟩
 refine WL.eff (EO.alloc ze29 rfl) rfl ?_
 rintro _ _ _ - ⟨rfl, g95, rfl, rfl⟩
 refine WL.f1 ?_
 refine WL.eff (EO.storeL (v := (.agg #[(.int .i64 r83.Id), (.int .i64 r83.Serial), (.int .i64 r83.Voters), (.int .i64 r83.Node), vq90_4, (.int .i64 r83.Tries)])) (vl := [(.int .i64 r83.Id), (.int .i64 r83.Serial), (.int .i64 r83.Voters), (.int .i64 r83.Node), vq90_4, (.int .i64 r83.Tries)]) (arr' := [(.int .i64 r83.Id), (.int .i64 r83.Serial), (.int .i64 r83.Voters), (.int .i64 r83.Node), vq90_4, (.int .i64 r83.Tries)]) rfl sz24 rfl rfl (onesOf (Ones.cons rfl (Ones.cons rfl (Ones.cons rfl (Ones.cons rfl (Ones.cons (RS.one hq90_4) (Ones.cons rfl Ones.nil))))))) rfl rfl rfl) rfl ?_
 rintro _ _ _ - ⟨rfl, rfl⟩
 refine Pa (.int .i64 r84) rfl rfl ?_
 refine WL.f1 ?_
 refine WL.eff (EO.storeL (v := (.agg #[(.int .i64 r85.Client), (.int .i64 r85.Serial), (.int .i64 r85.Kind), (.string r85.Name), (.string r85.Key), (.string r85.Value), (.bool r85.Flag), (.int .i64 r85.Parts), (.int .i64 r85.Replicas), (.int .i64 r85.Part), vq92_10, (.int .i64 r85.Broker), (.int .i64 r85.Epoch), (.string r85.Rack), (.int .i64 r85.Word.Broker), (.int .i64 r85.Word.Epoch), (.int .i64 r85.Word.High), (.bool r85.Word.Fence), (.bool r85.Word.Leave)])) (vl := [(.int .i64 r85.Client), (.int .i64 r85.Serial), (.int .i64 r85.Kind), (.string r85.Name), (.string r85.Key), (.string r85.Value), (.bool r85.Flag), (.int .i64 r85.Parts), (.int .i64 r85.Replicas), (.int .i64 r85.Part), vq92_10, (.int .i64 r85.Broker), (.int .i64 r85.Epoch), (.string r85.Rack), (.int .i64 r85.Word.Broker), (.int .i64 r85.Word.Epoch), (.int .i64 r85.Word.High), (.bool r85.Word.Fence), (.bool r85.Word.Leave)]) (arr' := [(.int .i64 r85.Client), (.int .i64 r85.Serial), (.int .i64 r85.Kind), (.string r85.Name), (.string r85.Key), (.string r85.Value), (.bool r85.Flag), (.int .i64 r85.Parts), (.int .i64 r85.Replicas), (.int .i64 r85.Part), vq92_10, (.int .i64 r85.Broker), (.int .i64 r85.Epoch), (.string r85.Rack), (.int .i64 r85.Word.Broker), (.int .i64 r85.Word.Epoch), (.int .i64 r85.Word.High), (.bool r85.Word.Fence), (.bool r85.Word.Leave)]) rfl sz29 rfl rfl (onesOf (Ones.cons rfl (Ones.cons rfl (Ones.cons rfl (Ones.cons rfl (Ones.cons rfl (Ones.cons rfl (Ones.cons rfl (Ones.cons rfl (Ones.cons rfl (Ones.cons rfl (Ones.cons (OwnS.one hq92_10) (Ones.cons rfl (Ones.cons rfl (Ones.cons rfl (Ones.cons rfl (Ones.cons rfl (Ones.cons rfl (Ones.cons rfl (Ones.cons rfl Ones.nil)))))))))))))))))))) rfl rfl (by kernel_rfl)) rfl ?_
 rintro _ _ _ - ⟨rfl, rfl⟩
 refine Pa (.bool r86) rfl rfl ?_
 refine Nt ?_
 obtain ⟨x96, hj97, h⟩ := bnd h
 refine WC.joinF (fun (x96 : Bool) ρ' M' H' => M88.le M' ∧ [(g95, .cells #[(.int .i64 r85.Client), (.int .i64 r85.Serial), (.int .i64 r85.Kind), (.string r85.Name), (.string r85.Key), (.string r85.Value), (.bool r85.Flag), (.int .i64 r85.Parts), (.int .i64 r85.Replicas), (.int .i64 r85.Part), vq92_10, (.int .i64 r85.Broker), (.int .i64 r85.Epoch), (.string r85.Rack), (.int .i64 r85.Word.Broker), (.int .i64 r85.Word.Epoch), (.int .i64 r85.Word.High), (.bool r85.Word.Fence), (.bool r85.Word.Leave)] 29 (0, 0))] :: [(g94, .cells #[(.int .i64 r83.Id), (.int .i64 r83.Serial), (.int .i64 r83.Voters), (.int .i64 r83.Node), vq90_4, (.int .i64 r83.Tries)] 24 (0, 0))] :: [(g82, .cells #[(.int .i64 r75.Id), (.int .i64 r75.Serial), (.int .i64 r75.Voters), (.int .i64 r75.Node), vq80_4, (.int .i64 r75.Tries)] 24 (0, 0))] :: [(g74, .cells #[(.int .i64 r67.Id), (.int .i64 r67.Serial), (.int .i64 r67.Voters), (.int .i64 r67.Node), vq72_4, (.int .i64 r67.Tries)] 24 (0, 0))] :: [(g66, .cells #[(.int .i64 r56.Client), (.int .i64 r56.Serial), (.int .i64 r56.Kind), (.string r56.Name), (.string r56.Key), (.string r56.Value), (.bool r56.Flag), (.int .i64 r56.Parts), (.int .i64 r56.Replicas), (.int .i64 r56.Part), vq63_10, (.int .i64 r56.Broker), (.int .i64 r56.Epoch), (.string r56.Rack), (.int .i64 r56.Word.Broker), (.int .i64 r56.Word.Epoch), (.int .i64 r56.Word.High), (.bool r56.Word.Fence), (.bool r56.Word.Leave)] 29 (0, 0))] :: [(g65, .cells #[(.int .i64 r54.Id), (.int .i64 r54.Serial), (.int .i64 r54.Voters), (.int .i64 r54.Node), vq61_4, (.int .i64 r54.Tries)] 24 (0, 0))] :: [(g53, .cells #[(.int .i64 r46.Id), (.int .i64 r46.Serial), (.int .i64 r46.Voters), (.int .i64 r46.Node), vq51_4, (.int .i64 r46.Tries)] 24 (0, 0))] :: [(g28, .cells #[(.int .i64 r39.Id), (.int .i64 r39.Serial), (.int .i64 r39.Voters), (.int .i64 r39.Node), vq44_4, (.int .i64 r39.Tries)] 24 (0, 0))] :: [(g36, .cells #[(.int .i64 r29.Id), (.int .i64 r29.Serial), (.int .i64 r29.Voters), (.int .i64 r29.Node), vq34_4, (.int .i64 r29.Tries)] 24 (0, 0))] :: cq92_10 :: cq63_10 :: cq34_4 :: F = H' ∧ ρ' 0 = (.bool x96)) x96 ?_ ?_
 have h397 := h
 have h := hj97
 refine WC.region ?_
 refine Pm (GV r22) rfl rfl ?_
 refine Pu (.bool r22.isNil) (PO.errNil Try.underlying40 rfl) rfl ?_
 refine Pm (.bool r22.isNil) rfl rfl ?_
 rcases Bool.eq_false_or_eq_true (r22.isNil) with hb98 | hb98
 have h := ite_t hb98 h
 refine On 68 rfl rfl hb98 ?_
 refine Pm (GV r30) rfl rfl ?_
 refine On 68 rfl rfl hb98 ?_
 obtain ⟨r99, hr100, h⟩ := bnd h
 refine WL.eff (EO.call0 co18 (f_fault_Is_ok r30 (2 : Int) _ r99 hr100) (args2 rfl rfl)) rfl ?_
 rintro _ M101 _ hle102 ⟨_, ⟨rfl, rfl⟩, rfl⟩
 have hq44_4 := hq44_4.mono hle102
 have hq34_4 := hq34_4.mono hle102
 have hq51_4 := hq51_4.mono hle102
 have hq61_4 := hq61_4.mono hle102
 have hq63_10 := hq63_10.mono hle102
 have hq72_4 := hq72_4.mono hle102
 have hq80_4 := hq80_4.mono hle102
 have hq90_4 := hq90_4.mono hle102
 have hq92_10 := hq92_10.mono hle102
 refine WL.a0 ?_
 refine Pu (.bool r99) (PO.pickT rfl hb98 rfl) rfl ?_
 refine Pm (.bool r99) rfl rfl ?_
 rcases Bool.eq_false_or_eq_true (r99) with hb104 | hb104
 have h := ite_t hb104 h
 refine On 72 rfl rfl hb104 ?_
 refine Pm (GV r40) rfl rfl ?_
 refine On 72 rfl rfl hb104 ?_
 refine Pu (.bool r40.isNil) (PO.errNil Try.underlying40 rfl) rfl ?_
 refine Pu (.bool r40.isNil) (PO.pickT rfl hb104 rfl) rfl ?_
 refine Pm (.bool r40.isNil) rfl rfl ?_
 rcases Bool.eq_false_or_eq_true (r40.isNil) with hb105 | hb105
 have h := ite_t hb105 h
 refine On 76 rfl rfl hb105 ?_
 refine Pm (GV r47) rfl rfl ?_
 refine On 76 rfl rfl hb105 ?_
 obtain ⟨r106, hr107, h⟩ := bnd h
 refine WL.eff (EO.call0 co18 (f_fault_Is_ok r47 (10 : Int) _ r106 hr107) (args2 rfl rfl)) rfl ?_
 rintro _ M108 _ hle109 ⟨_, ⟨rfl, rfl⟩, rfl⟩
 have hq44_4 := hq44_4.mono hle109
 have hq34_4 := hq34_4.mono hle109
 have hq51_4 := hq51_4.mono hle109
 have hq61_4 := hq61_4.mono hle109
 have hq63_10 := hq63_10.mono hle109
 have hq72_4 := hq72_4.mono hle109
 have hq80_4 := hq80_4.mono hle109
 have hq90_4 := hq90_4.mono hle109
 have hq92_10 := hq92_10.mono hle109
 refine WL.a0 ?_
 refine Pu (.bool r106) (PO.pickT rfl hb105 rfl) rfl ?_
 refine Pm (.bool r106) rfl rfl ?_
 rcases Bool.eq_false_or_eq_true (r106) with hb111 | hb111
 have h := ite_t hb111 h
 refine On 80 rfl rfl hb111 ?_
 refine Pm (.int .i64 r55) rfl rfl ?_
 refine On 80 rfl rfl hb111 ?_
 refine Pu (.bool (decide (r55 = (1 : Int)))) (PO.eql rfl rfl) rfl ?_
 refine Pu (.bool (decide (r55 = (1 : Int)))) (PO.pickT rfl hb111 rfl) rfl ?_
 refine Pm (.bool (decide (r55 = (1 : Int)))) rfl rfl ?_
 rcases Bool.eq_false_or_eq_true (decide (r55 = (1 : Int))) with hb112 | hb112
 have h := ite_t hb112 h
 refine On 84 rfl rfl hb112 ?_
 refine Pu (.pointer (some ⟨g66, 1, none⟩)) (PO.fieldAddr fo29_1 rfl rfl) rfl ?_
 refine On 84 rfl rfl hb112 ?_
 refine Pu (.int .i64 r56.Serial) (PO.loadB 5 pl3 rfl rfl rfl) rfl ?_
 refine On 84 rfl rfl hb112 ?_
 refine Pu (.bool (decide (r56.Serial = (1 : Int)))) (PO.eql rfl rfl) rfl ?_
 refine Pu (.bool (decide (r56.Serial = (1 : Int)))) (PO.pickT rfl hb112 rfl) rfl ?_
 refine Pm (.bool (decide (r56.Serial = (1 : Int)))) rfl rfl ?_
 rcases Bool.eq_false_or_eq_true (decide (r56.Serial = (1 : Int))) with hb113 | hb113
 have h := ite_t hb113 h
 refine On 89 rfl rfl hb113 ?_
 refine Pu (.pointer (some ⟨g66, 0, none⟩)) (PO.fieldAddr fo29_0 rfl rfl) rfl ?_
 refine On 89 rfl rfl hb113 ?_
 refine Pu (.int .i64 r56.Client) (PO.loadB 5 pl3 rfl rfl rfl) rfl ?_
 refine On 89 rfl rfl hb113 ?_
 refine Pu (.bool (decide (r56.Client = (9 : Int)))) (PO.eql rfl rfl) rfl ?_
 refine Pu (.bool (decide (r56.Client = (9 : Int)))) (PO.pickT rfl hb113 rfl) rfl ?_
 refine Pm (.bool (decide (r56.Client = (9 : Int)))) rfl rfl ?_
 rcases Bool.eq_false_or_eq_true (decide (r56.Client = (9 : Int))) with hb114 | hb114
 have h := ite_t hb114 h
 refine On 94 rfl rfl hb114 ?_
 refine Pm (.bool r57) rfl rfl ?_
 refine Pu (.bool r57) (PO.pickT rfl hb114 rfl) rfl ?_
 refine Pm (.bool r57) rfl rfl ?_
 rcases Bool.eq_false_or_eq_true (r57) with hb115 | hb115
 have h := ite_t hb115 h
 refine On 97 rfl rfl hb115 ?_
 refine Pm (.bool r68) rfl rfl ?_
 refine On 97 rfl rfl hb115 ?_
 refine Pu (.bool (!r68)) (PO.not rfl) rfl ?_
 refine Pu (.bool (!r68)) (PO.pickT rfl hb115 rfl) rfl ?_
 refine Pm (.bool (!r68)) rfl rfl ?_
 rcases Bool.eq_false_or_eq_true (!r68) with hb116 | hb116
 have h := ite_t hb116 h
 refine On 101 rfl rfl hb116 ?_
 refine Pu (.pointer (some ⟨g74, 3, none⟩)) (PO.fieldAddr fo24_3 rfl rfl) rfl ?_
 refine On 101 rfl rfl hb116 ?_
 refine Pu (.int .i64 r67.Node) (PO.loadB 4 pl3 rfl rfl rfl) rfl ?_
 refine On 101 rfl rfl hb116 ?_
 refine Pu (.bool (decide (r67.Node = (3 : Int)))) (PO.eql rfl rfl) rfl ?_
 refine Pu (.bool (decide (r67.Node = (3 : Int)))) (PO.pickT rfl hb116 rfl) rfl ?_
 refine Pm (.bool (decide (r67.Node = (3 : Int)))) rfl rfl ?_
 rcases Bool.eq_false_or_eq_true (decide (r67.Node = (3 : Int))) with hb117 | hb117
 have h := ite_t hb117 h
 refine On 106 rfl rfl hb117 ?_
 refine Pm (.bool r76) rfl rfl ?_
 refine Pu (.bool r76) (PO.pickT rfl hb117 rfl) rfl ?_
 refine Pm (.bool r76) rfl rfl ?_
 rcases Bool.eq_false_or_eq_true (r76) with hb118 | hb118
 have h := ite_t hb118 h
 refine On 109 rfl rfl hb118 ?_
 refine Pu (.pointer (some ⟨g82, 4, none⟩)) (PO.fieldAddr fo24_4 rfl rfl) rfl ?_
 refine On 109 rfl rfl hb118 ?_
 refine Pu vq80_4 (PO.loadB 3 pl22 rfl rfl rfl) rfl ?_
 refine On 109 rfl rfl hb118 ?_
 refine Pu (.int .i64 (r75.Open.length : Int)) (PO.lenS Try.underlying22 rfl hq80_4.len) rfl ?_
 refine On 109 rfl rfl hb118 ?_
 refine Pu (.bool (decide ((r75.Open.length : Int) = (0 : Int)))) (PO.eql rfl rfl) rfl ?_
 refine Pu (.bool (decide ((r75.Open.length : Int) = (0 : Int)))) (PO.pickT rfl hb118 rfl) rfl ?_
 refine Pm (.bool (decide ((r75.Open.length : Int) = (0 : Int)))) rfl rfl ?_
 rcases Bool.eq_false_or_eq_true (decide ((r75.Open.length : Int) = (0 : Int))) with hb119 | hb119
 have h := ite_t hb119 h
 refine On 115 rfl rfl hb119 ?_
 refine Pm (.bool r86) rfl rfl ?_
 refine On 115 rfl rfl hb119 ?_
 refine Pu (.bool (!r86)) (PO.not rfl) rfl ?_
 refine Pu (.bool (!r86)) (PO.pickT rfl hb119 rfl) rfl ?_
 refine Pm (.bool (!r86)) rfl rfl ?_
 rcases Bool.eq_false_or_eq_true (!r86) with hb120 | hb120
 have h := ite_t hb120 h
 refine On 119 rfl rfl hb120 ?_
 refine Pu (.agg #[(.int .i64 r67.Id), (.int .i64 r67.Serial), (.int .i64 r67.Voters), (.int .i64 r67.Node), vq72_4, (.int .i64 r67.Tries)]) (PO.loadBA (cs := [(.int .i64 r67.Id), (.int .i64 r67.Serial), (.int .i64 r67.Voters), (.int .i64 r67.Node), vq72_4, (.int .i64 r67.Tries)]) 4 ag24 sz24 rfl rfl rfl) rfl ?_
 refine On 119 rfl rfl hb120 ?_
 obtain ⟨r121, hr122, h⟩ := bnd h
 refine WL.eff (EO.call0 co14 (f_client_Lost_ok r67 _ _ hq72_4 r121 hr122) (args1 rfl)) rfl ?_
 rintro _ M123 _ hle124 ⟨_, ⟨vq125_4, rfl, rfl, hq125_4⟩, rfl⟩
 have hq80_4 := hq80_4.mono hle124
 have hq72_4 := hq72_4.mono hle124
 have hq44_4 := hq44_4.mono hle124
 have hq34_4 := hq34_4.mono hle124
 have hq51_4 := hq51_4.mono hle124
 have hq61_4 := hq61_4.mono hle124
 have hq63_10 := hq63_10.mono hle124
 have hq90_4 := hq90_4.mono hle124
 have hq92_10 := hq92_10.mono hle124
 refine WL.a0 ?_
 refine On 119 rfl rfl hb120 ?_
 refine Pu (.int .i64 r121.Node) (PO.field (cs := #[(.int .i64 r121.Id), (.int .i64 r121.Serial), (.int .i64 r121.Voters), (.int .i64 r121.Node), vq125_4, (.int .i64 r121.Tries)]) fa24_3 pl3 rfl rfl) rfl ?_
 refine On 119 rfl rfl hb120 ?_
 refine Pu (.bool (decide (r121.Node = (1 : Int)))) (PO.eql rfl rfl) rfl ?_
 refine Pu (.bool (decide (r121.Node = (1 : Int)))) (PO.pickT rfl hb120 rfl) rfl ?_
 refine Pm (.bool (decide (r121.Node = (1 : Int)))) rfl rfl ?_
 rcases Bool.eq_false_or_eq_true (decide (r121.Node = (1 : Int))) with hb126 | hb126
 have h := ite_t hb126 h
 refine On 125 rfl rfl hb126 ?_
 refine Pu (.agg #[(.int .i64 r75.Id), (.int .i64 r75.Serial), (.int .i64 r75.Voters), (.int .i64 r75.Node), vq80_4, (.int .i64 r75.Tries)]) (PO.loadBA (cs := [(.int .i64 r75.Id), (.int .i64 r75.Serial), (.int .i64 r75.Voters), (.int .i64 r75.Node), vq80_4, (.int .i64 r75.Tries)]) 3 ag24 sz24 rfl rfl rfl) rfl ?_
 refine On 125 rfl rfl hb126 ?_
 obtain ⟨r127, hr128, h⟩ := bnd h
 refine WL.eff (EO.call0 co13 (f_client_Check_ok r75 _ _ hq80_4 r127 hr128) (args1 rfl)) rfl ?_
 rintro _ M129 _ hle130 ⟨_, ⟨rfl, rfl⟩, rfl⟩
 have hq80_4 := hq80_4.mono hle130
 have hq72_4 := hq72_4.mono hle130
 have hq125_4 := hq125_4.mono hle130
 have hq44_4 := hq44_4.mono hle130
 have hq34_4 := hq34_4.mono hle130
 have hq51_4 := hq51_4.mono hle130
 have hq61_4 := hq61_4.mono hle130
 have hq63_10 := hq63_10.mono hle130
 have hq90_4 := hq90_4.mono hle130
 have hq92_10 := hq92_10.mono hle130
 refine WL.a0 ?_
 refine On 125 rfl rfl hb126 ?_
 refine Pu (.bool r127.isNil) (PO.errNil Try.underlying40 rfl) rfl ?_
 refine Pu (.bool r127.isNil) (PO.pickT rfl hb126 rfl) rfl ?_
 refine Pm (.bool r127.isNil) rfl rfl ?_
 rcases Bool.eq_false_or_eq_true (r127.isNil) with hb132 | hb132
 have h := ite_t hb132 h
 refine On 130 rfl rfl hb132 ?_
 refine Pu (.agg #[(.int .i64 r67.Id), (.int .i64 r67.Serial), (.int .i64 r67.Voters), (.int .i64 r67.Node), vq72_4, (.int .i64 r67.Tries)]) (PO.loadBA (cs := [(.int .i64 r67.Id), (.int .i64 r67.Serial), (.int .i64 r67.Voters), (.int .i64 r67.Node), vq72_4, (.int .i64 r67.Tries)]) 4 ag24 sz24 rfl rfl rfl) rfl ?_
 refine On 130 rfl rfl hb132 ?_
 refine Pu (.agg #[(.int .i64 r67.Id), (.int .i64 r67.Serial), (.int .i64 r67.Voters), (.int .i64 r67.Node), vq72_4, (.int .i64 r67.Tries)]) (PO.loadBA (cs := [(.int .i64 r67.Id), (.int .i64 r67.Serial), (.int .i64 r67.Voters), (.int .i64 r67.Node), vq72_4, (.int .i64 r67.Tries)]) 4 ag24 sz24 rfl rfl rfl) rfl ?_
 refine On 130 rfl rfl hb132 ?_
 obtain ⟨r133, hr134, h⟩ := bnd h
 refine WL.eff (EO.call0 co19 (f_client_Same_ok r67 r67 _ _ _ hq72_4 hq72_4 r133 hr134) (args2 rfl rfl)) rfl ?_
 rintro _ M135 _ hle136 ⟨_, ⟨rfl, rfl⟩, rfl⟩
 have hq80_4 := hq80_4.mono hle136
 have hq72_4 := hq72_4.mono hle136
 have hq125_4 := hq125_4.mono hle136
 have hq44_4 := hq44_4.mono hle136
 have hq34_4 := hq34_4.mono hle136
 have hq51_4 := hq51_4.mono hle136
 have hq61_4 := hq61_4.mono hle136
 have hq63_10 := hq63_10.mono hle136
 have hq90_4 := hq90_4.mono hle136
 have hq92_10 := hq92_10.mono hle136
 refine WL.a0 ?_
 refine Pu (.bool r133) (PO.pickT rfl hb132 rfl) rfl ?_
 refine Pm (.bool r133) rfl rfl ?_
 rcases Bool.eq_false_or_eq_true (r133) with hb138 | hb138
 have h := ite_t hb138 h
 refine On 135 rfl rfl hb138 ?_
 refine Pu (.agg #[(.int .i64 r67.Id), (.int .i64 r67.Serial), (.int .i64 r67.Voters), (.int .i64 r67.Node), vq72_4, (.int .i64 r67.Tries)]) (PO.loadBA (cs := [(.int .i64 r67.Id), (.int .i64 r67.Serial), (.int .i64 r67.Voters), (.int .i64 r67.Node), vq72_4, (.int .i64 r67.Tries)]) 4 ag24 sz24 rfl rfl rfl) rfl ?_
 refine On 135 rfl rfl hb138 ?_
 refine Pu (.agg #[(.int .i64 r75.Id), (.int .i64 r75.Serial), (.int .i64 r75.Voters), (.int .i64 r75.Node), vq80_4, (.int .i64 r75.Tries)]) (PO.loadBA (cs := [(.int .i64 r75.Id), (.int .i64 r75.Serial), (.int .i64 r75.Voters), (.int .i64 r75.Node), vq80_4, (.int .i64 r75.Tries)]) 3 ag24 sz24 rfl rfl rfl) rfl ?_
 refine On 135 rfl rfl hb138 ?_
 obtain ⟨r139, hr140, h⟩ := bnd h
 refine WL.eff (EO.call0 co19 (f_client_Same_ok r67 r75 _ _ _ hq72_4 hq80_4 r139 hr140) (args2 rfl rfl)) rfl ?_
 rintro _ M141 _ hle142 ⟨_, ⟨rfl, rfl⟩, rfl⟩
 have hq80_4 := hq80_4.mono hle142
 have hq72_4 := hq72_4.mono hle142
 have hq125_4 := hq125_4.mono hle142
 have hq44_4 := hq44_4.mono hle142
 have hq34_4 := hq34_4.mono hle142
 have hq51_4 := hq51_4.mono hle142
 have hq61_4 := hq61_4.mono hle142
 have hq63_10 := hq63_10.mono hle142
 have hq90_4 := hq90_4.mono hle142
 have hq92_10 := hq92_10.mono hle142
 refine WL.a0 ?_
 refine On 135 rfl rfl hb138 ?_
 refine Pu (.bool (!r139)) (PO.not rfl) rfl ?_
 refine Pu (.bool (!r139)) (PO.pickT rfl hb138 rfl) rfl ?_
 refine Pa (.bool (!r139)) rfl rfl ?_
 refine WL.nil ?_
 refine WQ.f11 ?_
 refine WQ.f8 ?_
 refine WQ.f4 ?_
 refine WQ.f11 ?_
 refine WQ.f11 ?_
 refine WQ.f11 ?_
 refine WQ.f11 ?_
 refine WQ.f11 ?_
 refine WQ.f11 ?_
 refine WQ.f11 ?_
 refine WQ.f11 ?_
 refine WQ.f11 ?_
 obtain rfl := Option.some.inj h
 refine WQ.thenJ ?_
 exact ⟨(((((hle102.trans hle109).trans hle124).trans hle130).trans hle136).trans hle142), rfl, rfl⟩
 have h := ite_f hb138 h
 iterate 4 refine Of 135 rfl rfl hb138 rfl ?_
 refine Pu (.bool false) (PO.pickF rfl hb138 rfl) rfl ?_
 refine Pa (.bool false) rfl rfl ?_
 refine WL.nil ?_
 refine WQ.f11 ?_
 refine WQ.f8 ?_
 refine WQ.f4 ?_
 refine WQ.f11 ?_
 refine WQ.f11 ?_
 refine WQ.f11 ?_
 refine WQ.f11 ?_
 refine WQ.f11 ?_
 refine WQ.f11 ?_
 refine WQ.f11 ?_
 refine WQ.f11 ?_
 refine WQ.f11 ?_
 obtain rfl := Option.some.inj h
 refine WQ.thenJ ?_
 exact ⟨((((hle102.trans hle109).trans hle124).trans hle130).trans hle136), rfl, rfl⟩
 have h := ite_f hb132 h
 iterate 3 refine Of 130 rfl rfl hb132 rfl ?_
 refine Pu (.bool false) (PO.pickF rfl hb132 rfl) rfl ?_
 refine Pm (.bool false) rfl rfl ?_
 iterate 4 refine Of 135 rfl rfl rfl rfl ?_
 refine Pu (.bool false) (PO.pickF rfl rfl rfl) rfl ?_
 refine Pa (.bool false) rfl rfl ?_
 refine WL.nil ?_
 refine WQ.f11 ?_
 refine WQ.f8 ?_
 refine WQ.f4 ?_
 refine WQ.f11 ?_
 refine WQ.f11 ?_
 refine WQ.f11 ?_
 refine WQ.f11 ?_
 refine WQ.f11 ?_
 refine WQ.f11 ?_
 refine WQ.f11 ?_
 refine WQ.f11 ?_
 refine WQ.f11 ?_
 obtain rfl := Option.some.inj h
 refine WQ.thenJ ?_
 exact ⟨(((hle102.trans hle109).trans hle124).trans hle130), rfl, rfl⟩
 have h := ite_f hb126 h
 iterate 3 refine Of 125 rfl rfl hb126 rfl ?_
 refine Pu (.bool false) (PO.pickF rfl hb126 rfl) rfl ?_
 refine Pm (.bool false) rfl rfl ?_
 iterate 3 refine Of 130 rfl rfl rfl rfl ?_
 refine Pu (.bool false) (PO.pickF rfl rfl rfl) rfl ?_
 refine Pm (.bool false) rfl rfl ?_
 iterate 4 refine Of 135 rfl rfl rfl rfl ?_
 refine Pu (.bool false) (PO.pickF rfl rfl rfl) rfl ?_
 refine Pa (.bool false) rfl rfl ?_
 refine WL.nil ?_
 refine WQ.f11 ?_
 refine WQ.f8 ?_
 refine WQ.f4 ?_
 refine WQ.f11 ?_
 refine WQ.f11 ?_
 refine WQ.f11 ?_
 refine WQ.f11 ?_
 refine WQ.f11 ?_
 refine WQ.f11 ?_
 refine WQ.f11 ?_
 refine WQ.f11 ?_
 refine WQ.f11 ?_
 obtain rfl := Option.some.inj h
 refine WQ.thenJ ?_
 exact ⟨((hle102.trans hle109).trans hle124), rfl, rfl⟩
 have h := ite_f hb120 h
 iterate 4 refine Of 119 rfl rfl hb120 rfl ?_
 refine Pu (.bool false) (PO.pickF rfl hb120 rfl) rfl ?_
 refine Pm (.bool false) rfl rfl ?_
 iterate 3 refine Of 125 rfl rfl rfl rfl ?_
 refine Pu (.bool false) (PO.pickF rfl rfl rfl) rfl ?_
 refine Pm (.bool false) rfl rfl ?_
 iterate 3 refine Of 130 rfl rfl rfl rfl ?_
 refine Pu (.bool false) (PO.pickF rfl rfl rfl) rfl ?_
 refine Pm (.bool false) rfl rfl ?_
 iterate 4 refine Of 135 rfl rfl rfl rfl ?_
 refine Pu (.bool false) (PO.pickF rfl rfl rfl) rfl ?_
 refine Pa (.bool false) rfl rfl ?_
 refine WL.nil ?_
 refine WQ.f11 ?_
 refine WQ.f8 ?_
 refine WQ.f4 ?_
 refine WQ.f11 ?_
 refine WQ.f11 ?_
 refine WQ.f11 ?_
 refine WQ.f11 ?_
 refine WQ.f11 ?_
 refine WQ.f11 ?_
 refine WQ.f11 ?_
 refine WQ.f11 ?_
 refine WQ.f11 ?_
 obtain rfl := Option.some.inj h
 refine WQ.thenJ ?_
 exact ⟨(hle102.trans hle109), rfl, rfl⟩
 have h := ite_f hb119 h
 iterate 2 refine Of 115 rfl rfl hb119 rfl ?_
 refine Pu (.bool false) (PO.pickF rfl hb119 rfl) rfl ?_
 refine Pm (.bool false) rfl rfl ?_
 iterate 4 refine Of 119 rfl rfl rfl rfl ?_
 refine Pu (.bool false) (PO.pickF rfl rfl rfl) rfl ?_
 refine Pm (.bool false) rfl rfl ?_
 iterate 3 refine Of 125 rfl rfl rfl rfl ?_
 refine Pu (.bool false) (PO.pickF rfl rfl rfl) rfl ?_
 refine Pm (.bool false) rfl rfl ?_
 iterate 3 refine Of 130 rfl rfl rfl rfl ?_
 refine Pu (.bool false) (PO.pickF rfl rfl rfl) rfl ?_
 refine Pm (.bool false) rfl rfl ?_
 iterate 4 refine Of 135 rfl rfl rfl rfl ?_
 refine Pu (.bool false) (PO.pickF rfl rfl rfl) rfl ?_
 refine Pa (.bool false) rfl rfl ?_
 refine WL.nil ?_
 refine WQ.f11 ?_
 refine WQ.f8 ?_
 refine WQ.f4 ?_
 refine WQ.f11 ?_
 refine WQ.f11 ?_
 refine WQ.f11 ?_
 refine WQ.f11 ?_
 refine WQ.f11 ?_
 refine WQ.f11 ?_
 refine WQ.f11 ?_
 refine WQ.f11 ?_
 refine WQ.f11 ?_
 obtain rfl := Option.some.inj h
 refine WQ.thenJ ?_
 exact ⟨(hle102.trans hle109), rfl, rfl⟩
 have h := ite_f hb118 h
 iterate 4 refine Of 109 rfl rfl hb118 rfl ?_
 refine Pu (.bool false) (PO.pickF rfl hb118 rfl) rfl ?_
 refine Pm (.bool false) rfl rfl ?_
 iterate 2 refine Of 115 rfl rfl rfl rfl ?_
 refine Pu (.bool false) (PO.pickF rfl rfl rfl) rfl ?_
 refine Pm (.bool false) rfl rfl ?_
 iterate 4 refine Of 119 rfl rfl rfl rfl ?_
 refine Pu (.bool false) (PO.pickF rfl rfl rfl) rfl ?_
 refine Pm (.bool false) rfl rfl ?_
 iterate 3 refine Of 125 rfl rfl rfl rfl ?_
 refine Pu (.bool false) (PO.pickF rfl rfl rfl) rfl ?_
 refine Pm (.bool false) rfl rfl ?_
 iterate 3 refine Of 130 rfl rfl rfl rfl ?_
 refine Pu (.bool false) (PO.pickF rfl rfl rfl) rfl ?_
 refine Pm (.bool false) rfl rfl ?_
 iterate 4 refine Of 135 rfl rfl rfl rfl ?_
 refine Pu (.bool false) (PO.pickF rfl rfl rfl) rfl ?_
 refine Pa (.bool false) rfl rfl ?_
 refine WL.nil ?_
 refine WQ.f11 ?_
 refine WQ.f8 ?_
 refine WQ.f4 ?_
 refine WQ.f11 ?_
 refine WQ.f11 ?_
 refine WQ.f11 ?_
 refine WQ.f11 ?_
 refine WQ.f11 ?_
 refine WQ.f11 ?_
 refine WQ.f11 ?_
 refine WQ.f11 ?_
 refine WQ.f11 ?_
 obtain rfl := Option.some.inj h
 refine WQ.thenJ ?_
 exact ⟨(hle102.trans hle109), rfl, rfl⟩
 have h := ite_f hb117 h
 refine Of 106 rfl rfl hb117 rfl ?_
 refine Pu (.bool false) (PO.pickF rfl hb117 rfl) rfl ?_
 refine Pm (.bool false) rfl rfl ?_
 iterate 4 refine Of 109 rfl rfl rfl rfl ?_
 refine Pu (.bool false) (PO.pickF rfl rfl rfl) rfl ?_
 refine Pm (.bool false) rfl rfl ?_
 iterate 2 refine Of 115 rfl rfl rfl rfl ?_
 refine Pu (.bool false) (PO.pickF rfl rfl rfl) rfl ?_
 refine Pm (.bool false) rfl rfl ?_
 iterate 4 refine Of 119 rfl rfl rfl rfl ?_
 refine Pu (.bool false) (PO.pickF rfl rfl rfl) rfl ?_
 refine Pm (.bool false) rfl rfl ?_
 iterate 3 refine Of 125 rfl rfl rfl rfl ?_
 refine Pu (.bool false) (PO.pickF rfl rfl rfl) rfl ?_
 refine Pm (.bool false) rfl rfl ?_
 iterate 3 refine Of 130 rfl rfl rfl rfl ?_
 refine Pu (.bool false) (PO.pickF rfl rfl rfl) rfl ?_
 refine Pm (.bool false) rfl rfl ?_
 iterate 4 refine Of 135 rfl rfl rfl rfl ?_
 refine Pu (.bool false) (PO.pickF rfl rfl rfl) rfl ?_
 refine Pa (.bool false) rfl rfl ?_
 refine WL.nil ?_
 refine WQ.f11 ?_
 refine WQ.f8 ?_
 refine WQ.f4 ?_
 refine WQ.f11 ?_
 refine WQ.f11 ?_
 refine WQ.f11 ?_
 refine WQ.f11 ?_
 refine WQ.f11 ?_
 refine WQ.f11 ?_
 refine WQ.f11 ?_
 refine WQ.f11 ?_
 refine WQ.f11 ?_
 obtain rfl := Option.some.inj h
 refine WQ.thenJ ?_
 exact ⟨(hle102.trans hle109), rfl, rfl⟩
 have h := ite_f hb116 h
 iterate 3 refine Of 101 rfl rfl hb116 rfl ?_
 refine Pu (.bool false) (PO.pickF rfl hb116 rfl) rfl ?_
 refine Pm (.bool false) rfl rfl ?_
 refine Of 106 rfl rfl rfl rfl ?_
 refine Pu (.bool false) (PO.pickF rfl rfl rfl) rfl ?_
 refine Pm (.bool false) rfl rfl ?_
 iterate 4 refine Of 109 rfl rfl rfl rfl ?_
 refine Pu (.bool false) (PO.pickF rfl rfl rfl) rfl ?_
 refine Pm (.bool false) rfl rfl ?_
 iterate 2 refine Of 115 rfl rfl rfl rfl ?_
 refine Pu (.bool false) (PO.pickF rfl rfl rfl) rfl ?_
 refine Pm (.bool false) rfl rfl ?_
 iterate 4 refine Of 119 rfl rfl rfl rfl ?_
 refine Pu (.bool false) (PO.pickF rfl rfl rfl) rfl ?_
 refine Pm (.bool false) rfl rfl ?_
 iterate 3 refine Of 125 rfl rfl rfl rfl ?_
 refine Pu (.bool false) (PO.pickF rfl rfl rfl) rfl ?_
 refine Pm (.bool false) rfl rfl ?_
 iterate 3 refine Of 130 rfl rfl rfl rfl ?_
 refine Pu (.bool false) (PO.pickF rfl rfl rfl) rfl ?_
 refine Pm (.bool false) rfl rfl ?_
 iterate 4 refine Of 135 rfl rfl rfl rfl ?_
 refine Pu (.bool false) (PO.pickF rfl rfl rfl) rfl ?_
 refine Pa (.bool false) rfl rfl ?_
 refine WL.nil ?_
 refine WQ.f11 ?_
 refine WQ.f8 ?_
 refine WQ.f4 ?_
 refine WQ.f11 ?_
 refine WQ.f11 ?_
 refine WQ.f11 ?_
 refine WQ.f11 ?_
 refine WQ.f11 ?_
 refine WQ.f11 ?_
 refine WQ.f11 ?_
 refine WQ.f11 ?_
 refine WQ.f11 ?_
 obtain rfl := Option.some.inj h
 refine WQ.thenJ ?_
 exact ⟨(hle102.trans hle109), rfl, rfl⟩
 have h := ite_f hb115 h
 iterate 2 refine Of 97 rfl rfl hb115 rfl ?_
 refine Pu (.bool false) (PO.pickF rfl hb115 rfl) rfl ?_
 refine Pm (.bool false) rfl rfl ?_
 iterate 3 refine Of 101 rfl rfl rfl rfl ?_
 refine Pu (.bool false) (PO.pickF rfl rfl rfl) rfl ?_
 refine Pm (.bool false) rfl rfl ?_
 refine Of 106 rfl rfl rfl rfl ?_
 refine Pu (.bool false) (PO.pickF rfl rfl rfl) rfl ?_
 refine Pm (.bool false) rfl rfl ?_
 iterate 4 refine Of 109 rfl rfl rfl rfl ?_
 refine Pu (.bool false) (PO.pickF rfl rfl rfl) rfl ?_
 refine Pm (.bool false) rfl rfl ?_
 iterate 2 refine Of 115 rfl rfl rfl rfl ?_
 refine Pu (.bool false) (PO.pickF rfl rfl rfl) rfl ?_
 refine Pm (.bool false) rfl rfl ?_
 iterate 4 refine Of 119 rfl rfl rfl rfl ?_
 refine Pu (.bool false) (PO.pickF rfl rfl rfl) rfl ?_
 refine Pm (.bool false) rfl rfl ?_
 iterate 3 refine Of 125 rfl rfl rfl rfl ?_
 refine Pu (.bool false) (PO.pickF rfl rfl rfl) rfl ?_
 refine Pm (.bool false) rfl rfl ?_
 iterate 3 refine Of 130 rfl rfl rfl rfl ?_
 refine Pu (.bool false) (PO.pickF rfl rfl rfl) rfl ?_
 refine Pm (.bool false) rfl rfl ?_
 iterate 4 refine Of 135 rfl rfl rfl rfl ?_
 refine Pu (.bool false) (PO.pickF rfl rfl rfl) rfl ?_
 refine Pa (.bool false) rfl rfl ?_
 refine WL.nil ?_
 refine WQ.f11 ?_
 refine WQ.f8 ?_
 refine WQ.f4 ?_
 refine WQ.f11 ?_
 refine WQ.f11 ?_
 refine WQ.f11 ?_
 refine WQ.f11 ?_
 refine WQ.f11 ?_
 refine WQ.f11 ?_
 refine WQ.f11 ?_
 refine WQ.f11 ?_
 refine WQ.f11 ?_
 obtain rfl := Option.some.inj h
 refine WQ.thenJ ?_
 exact ⟨(hle102.trans hle109), rfl, rfl⟩
 have h := ite_f hb114 h
 refine Of 94 rfl rfl hb114 rfl ?_
 refine Pu (.bool false) (PO.pickF rfl hb114 rfl) rfl ?_
 refine Pm (.bool false) rfl rfl ?_
 iterate 2 refine Of 97 rfl rfl rfl rfl ?_
 refine Pu (.bool false) (PO.pickF rfl rfl rfl) rfl ?_
 refine Pm (.bool false) rfl rfl ?_
 iterate 3 refine Of 101 rfl rfl rfl rfl ?_
 refine Pu (.bool false) (PO.pickF rfl rfl rfl) rfl ?_
 refine Pm (.bool false) rfl rfl ?_
 refine Of 106 rfl rfl rfl rfl ?_
 refine Pu (.bool false) (PO.pickF rfl rfl rfl) rfl ?_
 refine Pm (.bool false) rfl rfl ?_
 iterate 4 refine Of 109 rfl rfl rfl rfl ?_
 refine Pu (.bool false) (PO.pickF rfl rfl rfl) rfl ?_
 refine Pm (.bool false) rfl rfl ?_
 iterate 2 refine Of 115 rfl rfl rfl rfl ?_
 refine Pu (.bool false) (PO.pickF rfl rfl rfl) rfl ?_
 refine Pm (.bool false) rfl rfl ?_
 iterate 4 refine Of 119 rfl rfl rfl rfl ?_
 refine Pu (.bool false) (PO.pickF rfl rfl rfl) rfl ?_
 refine Pm (.bool false) rfl rfl ?_
 iterate 3 refine Of 125 rfl rfl rfl rfl ?_
 refine Pu (.bool false) (PO.pickF rfl rfl rfl) rfl ?_
 refine Pm (.bool false) rfl rfl ?_
 iterate 3 refine Of 130 rfl rfl rfl rfl ?_
 refine Pu (.bool false) (PO.pickF rfl rfl rfl) rfl ?_
 refine Pm (.bool false) rfl rfl ?_
 iterate 4 refine Of 135 rfl rfl rfl rfl ?_
 refine Pu (.bool false) (PO.pickF rfl rfl rfl) rfl ?_
 refine Pa (.bool false) rfl rfl ?_
 refine WL.nil ?_
 refine WQ.f11 ?_
 refine WQ.f8 ?_
 refine WQ.f4 ?_
 refine WQ.f11 ?_
 refine WQ.f11 ?_
 refine WQ.f11 ?_
 refine WQ.f11 ?_
 refine WQ.f11 ?_
 refine WQ.f11 ?_
 refine WQ.f11 ?_
 refine WQ.f11 ?_
 refine WQ.f11 ?_
 obtain rfl := Option.some.inj h
 refine WQ.thenJ ?_
 exact ⟨(hle102.trans hle109), rfl, rfl⟩
 have h := ite_f hb113 h
 iterate 3 refine Of 89 rfl rfl hb113 rfl ?_
 refine Pu (.bool false) (PO.pickF rfl hb113 rfl) rfl ?_
 refine Pm (.bool false) rfl rfl ?_
 refine Of 94 rfl rfl rfl rfl ?_
 refine Pu (.bool false) (PO.pickF rfl rfl rfl) rfl ?_
 refine Pm (.bool false) rfl rfl ?_
 iterate 2 refine Of 97 rfl rfl rfl rfl ?_
 refine Pu (.bool false) (PO.pickF rfl rfl rfl) rfl ?_
 refine Pm (.bool false) rfl rfl ?_
 iterate 3 refine Of 101 rfl rfl rfl rfl ?_
 refine Pu (.bool false) (PO.pickF rfl rfl rfl) rfl ?_
 refine Pm (.bool false) rfl rfl ?_
 refine Of 106 rfl rfl rfl rfl ?_
 refine Pu (.bool false) (PO.pickF rfl rfl rfl) rfl ?_
 refine Pm (.bool false) rfl rfl ?_
 iterate 4 refine Of 109 rfl rfl rfl rfl ?_
 refine Pu (.bool false) (PO.pickF rfl rfl rfl) rfl ?_
 refine Pm (.bool false) rfl rfl ?_
 iterate 2 refine Of 115 rfl rfl rfl rfl ?_
 refine Pu (.bool false) (PO.pickF rfl rfl rfl) rfl ?_
 refine Pm (.bool false) rfl rfl ?_
 iterate 4 refine Of 119 rfl rfl rfl rfl ?_
 refine Pu (.bool false) (PO.pickF rfl rfl rfl) rfl ?_
 refine Pm (.bool false) rfl rfl ?_
 iterate 3 refine Of 125 rfl rfl rfl rfl ?_
 refine Pu (.bool false) (PO.pickF rfl rfl rfl) rfl ?_
 refine Pm (.bool false) rfl rfl ?_
 iterate 3 refine Of 130 rfl rfl rfl rfl ?_
 refine Pu (.bool false) (PO.pickF rfl rfl rfl) rfl ?_
 refine Pm (.bool false) rfl rfl ?_
 iterate 4 refine Of 135 rfl rfl rfl rfl ?_
 refine Pu (.bool false) (PO.pickF rfl rfl rfl) rfl ?_
 refine Pa (.bool false) rfl rfl ?_
 refine WL.nil ?_
 refine WQ.f11 ?_
 refine WQ.f8 ?_
 refine WQ.f4 ?_
 refine WQ.f11 ?_
 refine WQ.f11 ?_
 refine WQ.f11 ?_
 refine WQ.f11 ?_
 refine WQ.f11 ?_
 refine WQ.f11 ?_
 refine WQ.f11 ?_
 refine WQ.f11 ?_
 refine WQ.f11 ?_
 obtain rfl := Option.some.inj h
 refine WQ.thenJ ?_
 exact ⟨(hle102.trans hle109), rfl, rfl⟩
 have h := ite_f hb112 h
 iterate 3 refine Of 84 rfl rfl hb112 rfl ?_
 refine Pu (.bool false) (PO.pickF rfl hb112 rfl) rfl ?_
 refine Pm (.bool false) rfl rfl ?_
 iterate 3 refine Of 89 rfl rfl rfl rfl ?_
 refine Pu (.bool false) (PO.pickF rfl rfl rfl) rfl ?_
 refine Pm (.bool false) rfl rfl ?_
 refine Of 94 rfl rfl rfl rfl ?_
 refine Pu (.bool false) (PO.pickF rfl rfl rfl) rfl ?_
 refine Pm (.bool false) rfl rfl ?_
 iterate 2 refine Of 97 rfl rfl rfl rfl ?_
 refine Pu (.bool false) (PO.pickF rfl rfl rfl) rfl ?_
 refine Pm (.bool false) rfl rfl ?_
 iterate 3 refine Of 101 rfl rfl rfl rfl ?_
 refine Pu (.bool false) (PO.pickF rfl rfl rfl) rfl ?_
 refine Pm (.bool false) rfl rfl ?_
 refine Of 106 rfl rfl rfl rfl ?_
 refine Pu (.bool false) (PO.pickF rfl rfl rfl) rfl ?_
 refine Pm (.bool false) rfl rfl ?_
 iterate 4 refine Of 109 rfl rfl rfl rfl ?_
 refine Pu (.bool false) (PO.pickF rfl rfl rfl) rfl ?_
 refine Pm (.bool false) rfl rfl ?_
 iterate 2 refine Of 115 rfl rfl rfl rfl ?_
 refine Pu (.bool false) (PO.pickF rfl rfl rfl) rfl ?_
 refine Pm (.bool false) rfl rfl ?_
 iterate 4 refine Of 119 rfl rfl rfl rfl ?_
 refine Pu (.bool false) (PO.pickF rfl rfl rfl) rfl ?_
 refine Pm (.bool false) rfl rfl ?_
 iterate 3 refine Of 125 rfl rfl rfl rfl ?_
 refine Pu (.bool false) (PO.pickF rfl rfl rfl) rfl ?_
 refine Pm (.bool false) rfl rfl ?_
 iterate 3 refine Of 130 rfl rfl rfl rfl ?_
 refine Pu (.bool false) (PO.pickF rfl rfl rfl) rfl ?_
 refine Pm (.bool false) rfl rfl ?_
 iterate 4 refine Of 135 rfl rfl rfl rfl ?_
 refine Pu (.bool false) (PO.pickF rfl rfl rfl) rfl ?_
 refine Pa (.bool false) rfl rfl ?_
 refine WL.nil ?_
 refine WQ.f11 ?_
 refine WQ.f8 ?_
 refine WQ.f4 ?_
 refine WQ.f11 ?_
 refine WQ.f11 ?_
 refine WQ.f11 ?_
 refine WQ.f11 ?_
 refine WQ.f11 ?_
 refine WQ.f11 ?_
 refine WQ.f11 ?_
 refine WQ.f11 ?_
 refine WQ.f11 ?_
 obtain rfl := Option.some.inj h
 refine WQ.thenJ ?_
 exact ⟨(hle102.trans hle109), rfl, rfl⟩
 have h := ite_f hb111 h
 iterate 2 refine Of 80 rfl rfl hb111 rfl ?_
 refine Pu (.bool false) (PO.pickF rfl hb111 rfl) rfl ?_
 refine Pm (.bool false) rfl rfl ?_
 iterate 3 refine Of 84 rfl rfl rfl rfl ?_
 refine Pu (.bool false) (PO.pickF rfl rfl rfl) rfl ?_
 refine Pm (.bool false) rfl rfl ?_
 iterate 3 refine Of 89 rfl rfl rfl rfl ?_
 refine Pu (.bool false) (PO.pickF rfl rfl rfl) rfl ?_
 refine Pm (.bool false) rfl rfl ?_
 refine Of 94 rfl rfl rfl rfl ?_
 refine Pu (.bool false) (PO.pickF rfl rfl rfl) rfl ?_
 refine Pm (.bool false) rfl rfl ?_
 iterate 2 refine Of 97 rfl rfl rfl rfl ?_
 refine Pu (.bool false) (PO.pickF rfl rfl rfl) rfl ?_
 refine Pm (.bool false) rfl rfl ?_
 iterate 3 refine Of 101 rfl rfl rfl rfl ?_
 refine Pu (.bool false) (PO.pickF rfl rfl rfl) rfl ?_
 refine Pm (.bool false) rfl rfl ?_
 refine Of 106 rfl rfl rfl rfl ?_
 refine Pu (.bool false) (PO.pickF rfl rfl rfl) rfl ?_
 refine Pm (.bool false) rfl rfl ?_
 iterate 4 refine Of 109 rfl rfl rfl rfl ?_
 refine Pu (.bool false) (PO.pickF rfl rfl rfl) rfl ?_
 refine Pm (.bool false) rfl rfl ?_
 iterate 2 refine Of 115 rfl rfl rfl rfl ?_
 refine Pu (.bool false) (PO.pickF rfl rfl rfl) rfl ?_
 refine Pm (.bool false) rfl rfl ?_
 iterate 4 refine Of 119 rfl rfl rfl rfl ?_
 refine Pu (.bool false) (PO.pickF rfl rfl rfl) rfl ?_
 refine Pm (.bool false) rfl rfl ?_
 iterate 3 refine Of 125 rfl rfl rfl rfl ?_
 refine Pu (.bool false) (PO.pickF rfl rfl rfl) rfl ?_
 refine Pm (.bool false) rfl rfl ?_
 iterate 3 refine Of 130 rfl rfl rfl rfl ?_
 refine Pu (.bool false) (PO.pickF rfl rfl rfl) rfl ?_
 refine Pm (.bool false) rfl rfl ?_
 iterate 4 refine Of 135 rfl rfl rfl rfl ?_
 refine Pu (.bool false) (PO.pickF rfl rfl rfl) rfl ?_
 refine Pa (.bool false) rfl rfl ?_
 refine WL.nil ?_
 refine WQ.f11 ?_
 refine WQ.f8 ?_
 refine WQ.f4 ?_
 refine WQ.f11 ?_
 refine WQ.f11 ?_
 refine WQ.f11 ?_
 refine WQ.f11 ?_
 refine WQ.f11 ?_
 refine WQ.f11 ?_
 refine WQ.f11 ?_
 refine WQ.f11 ?_
 refine WQ.f11 ?_
 obtain rfl := Option.some.inj h
 refine WQ.thenJ ?_
 exact ⟨(hle102.trans hle109), rfl, rfl⟩
 have h := ite_f hb105 h
 iterate 2 refine Of 76 rfl rfl hb105 rfl ?_
 refine Pu (.bool false) (PO.pickF rfl hb105 rfl) rfl ?_
 refine Pm (.bool false) rfl rfl ?_
 iterate 2 refine Of 80 rfl rfl rfl rfl ?_
 refine Pu (.bool false) (PO.pickF rfl rfl rfl) rfl ?_
 refine Pm (.bool false) rfl rfl ?_
 iterate 3 refine Of 84 rfl rfl rfl rfl ?_
 refine Pu (.bool false) (PO.pickF rfl rfl rfl) rfl ?_
 refine Pm (.bool false) rfl rfl ?_
 iterate 3 refine Of 89 rfl rfl rfl rfl ?_
 refine Pu (.bool false) (PO.pickF rfl rfl rfl) rfl ?_
 refine Pm (.bool false) rfl rfl ?_
 refine Of 94 rfl rfl rfl rfl ?_
 refine Pu (.bool false) (PO.pickF rfl rfl rfl) rfl ?_
 refine Pm (.bool false) rfl rfl ?_
 iterate 2 refine Of 97 rfl rfl rfl rfl ?_
 refine Pu (.bool false) (PO.pickF rfl rfl rfl) rfl ?_
 refine Pm (.bool false) rfl rfl ?_
 iterate 3 refine Of 101 rfl rfl rfl rfl ?_
 refine Pu (.bool false) (PO.pickF rfl rfl rfl) rfl ?_
 refine Pm (.bool false) rfl rfl ?_
 refine Of 106 rfl rfl rfl rfl ?_
 refine Pu (.bool false) (PO.pickF rfl rfl rfl) rfl ?_
 refine Pm (.bool false) rfl rfl ?_
 iterate 4 refine Of 109 rfl rfl rfl rfl ?_
 refine Pu (.bool false) (PO.pickF rfl rfl rfl) rfl ?_
 refine Pm (.bool false) rfl rfl ?_
 iterate 2 refine Of 115 rfl rfl rfl rfl ?_
 refine Pu (.bool false) (PO.pickF rfl rfl rfl) rfl ?_
 refine Pm (.bool false) rfl rfl ?_
 iterate 4 refine Of 119 rfl rfl rfl rfl ?_
 refine Pu (.bool false) (PO.pickF rfl rfl rfl) rfl ?_
 refine Pm (.bool false) rfl rfl ?_
 iterate 3 refine Of 125 rfl rfl rfl rfl ?_
 refine Pu (.bool false) (PO.pickF rfl rfl rfl) rfl ?_
 refine Pm (.bool false) rfl rfl ?_
 iterate 3 refine Of 130 rfl rfl rfl rfl ?_
 refine Pu (.bool false) (PO.pickF rfl rfl rfl) rfl ?_
 refine Pm (.bool false) rfl rfl ?_
 iterate 4 refine Of 135 rfl rfl rfl rfl ?_
 refine Pu (.bool false) (PO.pickF rfl rfl rfl) rfl ?_
 refine Pa (.bool false) rfl rfl ?_
 refine WL.nil ?_
 refine WQ.f11 ?_
 refine WQ.f8 ?_
 refine WQ.f4 ?_
 refine WQ.f11 ?_
 refine WQ.f11 ?_
 refine WQ.f11 ?_
 refine WQ.f11 ?_
 refine WQ.f11 ?_
 refine WQ.f11 ?_
 refine WQ.f11 ?_
 refine WQ.f11 ?_
 refine WQ.f11 ?_
 obtain rfl := Option.some.inj h
 refine WQ.thenJ ?_
 exact ⟨hle102, rfl, rfl⟩
 have h := ite_f hb104 h
 iterate 2 refine Of 72 rfl rfl hb104 rfl ?_
 refine Pu (.bool false) (PO.pickF rfl hb104 rfl) rfl ?_
 refine Pm (.bool false) rfl rfl ?_
 iterate 2 refine Of 76 rfl rfl rfl rfl ?_
 refine Pu (.bool false) (PO.pickF rfl rfl rfl) rfl ?_
 refine Pm (.bool false) rfl rfl ?_
 iterate 2 refine Of 80 rfl rfl rfl rfl ?_
 refine Pu (.bool false) (PO.pickF rfl rfl rfl) rfl ?_
 refine Pm (.bool false) rfl rfl ?_
 iterate 3 refine Of 84 rfl rfl rfl rfl ?_
 refine Pu (.bool false) (PO.pickF rfl rfl rfl) rfl ?_
 refine Pm (.bool false) rfl rfl ?_
 iterate 3 refine Of 89 rfl rfl rfl rfl ?_
 refine Pu (.bool false) (PO.pickF rfl rfl rfl) rfl ?_
 refine Pm (.bool false) rfl rfl ?_
 refine Of 94 rfl rfl rfl rfl ?_
 refine Pu (.bool false) (PO.pickF rfl rfl rfl) rfl ?_
 refine Pm (.bool false) rfl rfl ?_
 iterate 2 refine Of 97 rfl rfl rfl rfl ?_
 refine Pu (.bool false) (PO.pickF rfl rfl rfl) rfl ?_
 refine Pm (.bool false) rfl rfl ?_
 iterate 3 refine Of 101 rfl rfl rfl rfl ?_
 refine Pu (.bool false) (PO.pickF rfl rfl rfl) rfl ?_
 refine Pm (.bool false) rfl rfl ?_
 refine Of 106 rfl rfl rfl rfl ?_
 refine Pu (.bool false) (PO.pickF rfl rfl rfl) rfl ?_
 refine Pm (.bool false) rfl rfl ?_
 iterate 4 refine Of 109 rfl rfl rfl rfl ?_
 refine Pu (.bool false) (PO.pickF rfl rfl rfl) rfl ?_
 refine Pm (.bool false) rfl rfl ?_
 iterate 2 refine Of 115 rfl rfl rfl rfl ?_
 refine Pu (.bool false) (PO.pickF rfl rfl rfl) rfl ?_
 refine Pm (.bool false) rfl rfl ?_
 iterate 4 refine Of 119 rfl rfl rfl rfl ?_
 refine Pu (.bool false) (PO.pickF rfl rfl rfl) rfl ?_
 refine Pm (.bool false) rfl rfl ?_
 iterate 3 refine Of 125 rfl rfl rfl rfl ?_
 refine Pu (.bool false) (PO.pickF rfl rfl rfl) rfl ?_
 refine Pm (.bool false) rfl rfl ?_
 iterate 3 refine Of 130 rfl rfl rfl rfl ?_
 refine Pu (.bool false) (PO.pickF rfl rfl rfl) rfl ?_
 refine Pm (.bool false) rfl rfl ?_
 iterate 4 refine Of 135 rfl rfl rfl rfl ?_
 refine Pu (.bool false) (PO.pickF rfl rfl rfl) rfl ?_
 refine Pa (.bool false) rfl rfl ?_
 refine WL.nil ?_
 refine WQ.f11 ?_
 refine WQ.f8 ?_
 refine WQ.f4 ?_
 refine WQ.f11 ?_
 refine WQ.f11 ?_
 refine WQ.f11 ?_
 refine WQ.f11 ?_
 refine WQ.f11 ?_
 refine WQ.f11 ?_
 refine WQ.f11 ?_
 refine WQ.f11 ?_
 refine WQ.f11 ?_
 obtain rfl := Option.some.inj h
 refine WQ.thenJ ?_
 exact ⟨hle102, rfl, rfl⟩
 have h := ite_f hb98 h
 iterate 2 refine Of 68 rfl rfl hb98 rfl ?_
 refine Pu (.bool false) (PO.pickF rfl hb98 rfl) rfl ?_
 refine Pm (.bool false) rfl rfl ?_
 iterate 2 refine Of 72 rfl rfl rfl rfl ?_
 refine Pu (.bool false) (PO.pickF rfl rfl rfl) rfl ?_
 refine Pm (.bool false) rfl rfl ?_
 iterate 2 refine Of 76 rfl rfl rfl rfl ?_
 refine Pu (.bool false) (PO.pickF rfl rfl rfl) rfl ?_
 refine Pm (.bool false) rfl rfl ?_
 iterate 2 refine Of 80 rfl rfl rfl rfl ?_
 refine Pu (.bool false) (PO.pickF rfl rfl rfl) rfl ?_
 refine Pm (.bool false) rfl rfl ?_
 iterate 3 refine Of 84 rfl rfl rfl rfl ?_
 refine Pu (.bool false) (PO.pickF rfl rfl rfl) rfl ?_
 refine Pm (.bool false) rfl rfl ?_
 iterate 3 refine Of 89 rfl rfl rfl rfl ?_
 refine Pu (.bool false) (PO.pickF rfl rfl rfl) rfl ?_
 refine Pm (.bool false) rfl rfl ?_
 refine Of 94 rfl rfl rfl rfl ?_
 refine Pu (.bool false) (PO.pickF rfl rfl rfl) rfl ?_
 refine Pm (.bool false) rfl rfl ?_
 iterate 2 refine Of 97 rfl rfl rfl rfl ?_
 refine Pu (.bool false) (PO.pickF rfl rfl rfl) rfl ?_
 refine Pm (.bool false) rfl rfl ?_
 iterate 3 refine Of 101 rfl rfl rfl rfl ?_
 refine Pu (.bool false) (PO.pickF rfl rfl rfl) rfl ?_
 refine Pm (.bool false) rfl rfl ?_
 refine Of 106 rfl rfl rfl rfl ?_
 refine Pu (.bool false) (PO.pickF rfl rfl rfl) rfl ?_
 refine Pm (.bool false) rfl rfl ?_
 iterate 4 refine Of 109 rfl rfl rfl rfl ?_
 refine Pu (.bool false) (PO.pickF rfl rfl rfl) rfl ?_
 refine Pm (.bool false) rfl rfl ?_
 iterate 2 refine Of 115 rfl rfl rfl rfl ?_
 refine Pu (.bool false) (PO.pickF rfl rfl rfl) rfl ?_
 refine Pm (.bool false) rfl rfl ?_
 iterate 4 refine Of 119 rfl rfl rfl rfl ?_
 refine Pu (.bool false) (PO.pickF rfl rfl rfl) rfl ?_
 refine Pm (.bool false) rfl rfl ?_
 iterate 3 refine Of 125 rfl rfl rfl rfl ?_
 refine Pu (.bool false) (PO.pickF rfl rfl rfl) rfl ?_
 refine Pm (.bool false) rfl rfl ?_
 iterate 3 refine Of 130 rfl rfl rfl rfl ?_
 refine Pu (.bool false) (PO.pickF rfl rfl rfl) rfl ?_
 refine Pm (.bool false) rfl rfl ?_
 iterate 4 refine Of 135 rfl rfl rfl rfl ?_
 refine Pu (.bool false) (PO.pickF rfl rfl rfl) rfl ?_
 refine Pa (.bool false) rfl rfl ?_
 refine WL.nil ?_
 refine WQ.f11 ?_
 refine WQ.f8 ?_
 refine WQ.f4 ?_
 refine WQ.f11 ?_
 refine WQ.f11 ?_
 refine WQ.f11 ?_
 refine WQ.f11 ?_
 refine WQ.f11 ?_
 refine WQ.f11 ?_
 refine WQ.f11 ?_
 refine WQ.f11 ?_
 refine WQ.f11 ?_
 obtain rfl := Option.some.inj h
 refine WQ.thenJ ?_
 exact ⟨(IM.le.refl _), rfl, rfl⟩
 rintro ρ97 M97 H97 ⟨hle97, rfl, hs97_0⟩
 have hq92_10 := hq92_10.mono hle97
 have hq90_4 := hq90_4.mono hle97
 have hq80_4 := hq80_4.mono hle97
 have hq72_4 := hq72_4.mono hle97
 have hq63_10 := hq63_10.mono hle97
 have hq61_4 := hq61_4.mono hle97
 have hq51_4 := hq51_4.mono hle97
 have hq44_4 := hq44_4.mono hle97
 have hq34_4 := hq34_4.mono hle97
 refine WC.ret ?_
 refine WQ.drop ?_
 refine WQ.drop ?_
 refine WQ.drop ?_
 refine WQ.drop ?_
 refine WQ.drop ?_
 refine WQ.drop ?_
 refine WQ.drop ?_
 refine WQ.drop ?_
 refine WQ.drop ?_
 refine WQ.drop ?_
 refine WQ.drop ?_
 refine WQ.drop ?_
 exact WQ.returnsF h [] rfl (results1 rfl hs97_0) (((((((((hle25.trans hle33).trans hle37).trans hle43).trans hle50).trans hle60).trans hle71).trans hle79).trans hle89).trans hle97) ⟨rfl, rfl⟩


end Go.Proofs.Ytdlilclopmhiaaa.G
