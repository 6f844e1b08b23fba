/- Go functions: what they come to, and that they do. Printed by a program of the session (gen). -/
import Derived.Test.YtkflneabcannnaaGreatDoorBF
import Derived.Test.YtkflneabcannnaaGreatDoorB11
import Derived.Test.YtkflneabcannnaaGreatDoorKConv
import Derived.Test.YtkflneabcannnaaGreatDoorKShar2
import Derived.Test.YtkflneabcannnaaGreatDoorKTight
set_option linter.unusedVariables false
set_option linter.unusedSimpArgs false
set_option maxHeartbeats 8000000
set_option maxRecDepth 100000
namespace Go.Proofs.YtkflneabcannnaaGreatDoor.G
open Go Go.KK

noncomputable def f_law07_works : Option Bool :=
  ((f_rpc_Put (⟨(4 : Int), (1 : Int), (2 : Int), (3 : Int), false, false, (1 : Int), (5 : Int), (2 : Int), (4 : Int), (0 : Int), [(⟨(3 : Int), (6 : Int), [(⟨(1 : Int), (0 : Int), (0 : Int), (0 : Int), (0 : Int), (0 : Int), (0 : Int), (0 : Int), (0 : Int), false, (⟨#[]⟩ : ByteArray), (⟨#[]⟩ : ByteArray), (⟨#[]⟩ : ByteArray), (⟨#[]⟩ : ByteArray), [], [], [], []⟩ : T_api_Record)]⟩ : T_api_Batch)], (0 : Int), (0 : Int), []⟩ : T_api_Rpc)).bind fun (r33, r34) => ((f_rpc_Read r33).bind fun (r46, r47) => ((f_rpc_Read (⟨(9 : Int), []⟩ : T_api_Frame)).bind fun (r54, r55) => (((if r34.isNil = true then (if (decide (r33.Kind = (4 : Int))) = true then (if r47.isNil = true then ((f_rpc_Same r46 (⟨(4 : Int), (1 : Int), (2 : Int), (3 : Int), false, false, (1 : Int), (5 : Int), (2 : Int), (4 : Int), (0 : Int), [(⟨(3 : Int), (6 : Int), [(⟨(1 : Int), (0 : Int), (0 : Int), (0 : Int), (0 : Int), (0 : Int), (0 : Int), (0 : Int), (0 : Int), false, (⟨#[]⟩ : ByteArray), (⟨#[]⟩ : ByteArray), (⟨#[]⟩ : ByteArray), (⟨#[]⟩ : ByteArray), [], [], [], []⟩ : T_api_Record)]⟩ : T_api_Batch)], (0 : Int), (0 : Int), []⟩ : T_api_Rpc)).bind fun (r68 : Bool) => (if r68 = true then ((f_fault_Is r55 (5 : Int)).bind fun (r83 : Bool) => (if r83 = true then ((f_rpc_Check (⟨(4 : Int), (1 : Int), (2 : Int), (3 : Int), false, false, (1 : Int), (5 : Int), (2 : Int), (4 : Int), (0 : Int), [(⟨(3 : Int), (6 : Int), [(⟨(1 : Int), (0 : Int), (0 : Int), (0 : Int), (0 : Int), (0 : Int), (0 : Int), (0 : Int), (0 : Int), false, (⟨#[]⟩ : ByteArray), (⟨#[]⟩ : ByteArray), (⟨#[]⟩ : ByteArray), (⟨#[]⟩ : ByteArray), [], [], [], []⟩ : T_api_Record)]⟩ : T_api_Batch)], (0 : Int), (0 : Int), []⟩ : T_api_Rpc)).bind fun (r89 : GErr) => (if r89.isNil = true then ((f_rpc_Check (⟨(1 : Int), (1 : Int), (1 : Int), (0 : Int), false, false, (0 : Int), (0 : Int), (0 : Int), (0 : Int), (0 : Int), [], (0 : Int), (0 : Int), []⟩ : T_api_Rpc)).bind fun (r98 : GErr) => ((f_fault_Is r98 (2 : Int)).bind fun (r103 : Bool) => (if r103 = true then ((f_rpc_Copy (⟨(4 : Int), (1 : Int), (2 : Int), (3 : Int), false, false, (1 : Int), (5 : Int), (2 : Int), (4 : Int), (0 : Int), [(⟨(3 : Int), (6 : Int), [(⟨(1 : Int), (0 : Int), (0 : Int), (0 : Int), (0 : Int), (0 : Int), (0 : Int), (0 : Int), (0 : Int), false, (⟨#[]⟩ : ByteArray), (⟨#[]⟩ : ByteArray), (⟨#[]⟩ : ByteArray), (⟨#[]⟩ : ByteArray), [], [], [], []⟩ : T_api_Record)]⟩ : T_api_Batch)], (0 : Int), (0 : Int), []⟩ : T_api_Rpc)).bind fun (r111 : T_api_Rpc) => ((f_rpc_Same (⟨(4 : Int), (1 : Int), (2 : Int), (3 : Int), false, false, (1 : Int), (5 : Int), (2 : Int), (4 : Int), (0 : Int), [(⟨(3 : Int), (6 : Int), [(⟨(1 : Int), (0 : Int), (0 : Int), (0 : Int), (0 : Int), (0 : Int), (0 : Int), (0 : Int), (0 : Int), false, (⟨#[]⟩ : ByteArray), (⟨#[]⟩ : ByteArray), (⟨#[]⟩ : ByteArray), (⟨#[]⟩ : ByteArray), [], [], [], []⟩ : T_api_Record)]⟩ : T_api_Batch)], (0 : Int), (0 : Int), []⟩ : T_api_Rpc) r111).bind fun (r116 : Bool) => (if r116 = true then ((f_rpc_Same (⟨(4 : Int), (1 : Int), (2 : Int), (3 : Int), false, false, (1 : Int), (5 : Int), (2 : Int), (4 : Int), (0 : Int), [(⟨(3 : Int), (6 : Int), [(⟨(1 : Int), (0 : Int), (0 : Int), (0 : Int), (0 : Int), (0 : Int), (0 : Int), (0 : Int), (0 : Int), false, (⟨#[]⟩ : ByteArray), (⟨#[]⟩ : ByteArray), (⟨#[]⟩ : ByteArray), (⟨#[]⟩ : ByteArray), [], [], [], []⟩ : T_api_Record)]⟩ : T_api_Batch)], (0 : Int), (0 : Int), []⟩ : T_api_Rpc) (⟨(0 : Int), (0 : Int), (0 : Int), (0 : Int), false, false, (0 : Int), (0 : Int), (0 : Int), (0 : Int), (0 : Int), [], (0 : Int), (0 : Int), []⟩ : T_api_Rpc)).bind fun (r128 : Bool) => (some (!r128, [(⟨(3 : Int), (6 : Int), [(⟨(1 : Int), (0 : Int), (0 : Int), (0 : Int), (0 : Int), (0 : Int), (0 : Int), (0 : Int), (0 : Int), false, (⟨#[]⟩ : ByteArray), (⟨#[]⟩ : ByteArray), (⟨#[]⟩ : ByteArray), (⟨#[]⟩ : ByteArray), [], [], [], []⟩ : T_api_Record)]⟩ : T_api_Batch)]))) else (some (false, [(⟨(3 : Int), (6 : Int), [(⟨(1 : Int), (0 : Int), (0 : Int), (0 : Int), (0 : Int), (0 : Int), (0 : Int), (0 : Int), (0 : Int), false, (⟨#[]⟩ : ByteArray), (⟨#[]⟩ : ByteArray), (⟨#[]⟩ : ByteArray), (⟨#[]⟩ : ByteArray), [], [], [], []⟩ : T_api_Record)]⟩ : T_api_Batch)]))))) else (some (false, [(⟨(3 : Int), (6 : Int), [(⟨(1 : Int), (0 : Int), (0 : Int), (0 : Int), (0 : Int), (0 : Int), (0 : Int), (0 : Int), (0 : Int), false, (⟨#[]⟩ : ByteArray), (⟨#[]⟩ : ByteArray), (⟨#[]⟩ : ByteArray), (⟨#[]⟩ : ByteArray), [], [], [], []⟩ : T_api_Record)]⟩ : T_api_Batch)]))))) else (some (false, [(⟨(3 : Int), (6 : Int), [(⟨(1 : Int), (0 : Int), (0 : Int), (0 : Int), (0 : Int), (0 : Int), (0 : Int), (0 : Int), (0 : Int), false, (⟨#[]⟩ : ByteArray), (⟨#[]⟩ : ByteArray), (⟨#[]⟩ : ByteArray), (⟨#[]⟩ : ByteArray), [], [], [], []⟩ : T_api_Record)]⟩ : T_api_Batch)])))) else (some (false, [(⟨(3 : Int), (6 : Int), [(⟨(1 : Int), (0 : Int), (0 : Int), (0 : Int), (0 : Int), (0 : Int), (0 : Int), (0 : Int), (0 : Int), false, (⟨#[]⟩ : ByteArray), (⟨#[]⟩ : ByteArray), (⟨#[]⟩ : ByteArray), (⟨#[]⟩ : ByteArray), [], [], [], []⟩ : T_api_Record)]⟩ : T_api_Batch)])))) else (some (false, [(⟨(3 : Int), (6 : Int), [(⟨(1 : Int), (0 : Int), (0 : Int), (0 : Int), (0 : Int), (0 : Int), (0 : Int), (0 : Int), (0 : Int), false, (⟨#[]⟩ : ByteArray), (⟨#[]⟩ : ByteArray), (⟨#[]⟩ : ByteArray), (⟨#[]⟩ : ByteArray), [], [], [], []⟩ : T_api_Record)]⟩ : T_api_Batch)])))) else (some (false, [(⟨(3 : Int), (6 : Int), [(⟨(1 : Int), (0 : Int), (0 : Int), (0 : Int), (0 : Int), (0 : Int), (0 : Int), (0 : Int), (0 : Int), false, (⟨#[]⟩ : ByteArray), (⟨#[]⟩ : ByteArray), (⟨#[]⟩ : ByteArray), (⟨#[]⟩ : ByteArray), [], [], [], []⟩ : T_api_Record)]⟩ : T_api_Batch)]))) else (some (false, [(⟨(3 : Int), (6 : Int), [(⟨(1 : Int), (0 : Int), (0 : Int), (0 : Int), (0 : Int), (0 : Int), (0 : Int), (0 : Int), (0 : Int), false, (⟨#[]⟩ : ByteArray), (⟨#[]⟩ : ByteArray), (⟨#[]⟩ : ByteArray), (⟨#[]⟩ : ByteArray), [], [], [], []⟩ : T_api_Record)]⟩ : T_api_Batch)]))) else (some (false, [(⟨(3 : Int), (6 : Int), [(⟨(1 : Int), (0 : Int), (0 : Int), (0 : Int), (0 : Int), (0 : Int), (0 : Int), (0 : Int), (0 : Int), false, (⟨#[]⟩ : ByteArray), (⟨#[]⟩ : ByteArray), (⟨#[]⟩ : ByteArray), (⟨#[]⟩ : ByteArray), [], [], [], []⟩ : T_api_Record)]⟩ : T_api_Batch)]))) : Option (Bool × (List T_api_Batch))).bind fun (x62, x63) => (some x62)))))
def f_law07_works_post : Bool → Value → IM → HL → Prop :=
  fun (r0 : Bool) (v : Value) (M' : IM) (H' : HL) => (.bool r0) = v ∧ H' = []
theorem f_law07_works_ok (M : IM) (hE : Env M) (res : Bool) (h : f_law07_works = some res) :
    Tri Tryz.prog 9 #[] M [] (f_law07_works_post res) := by
 unfold f_law07_works at h
 refine Te Tryz.func9 rfl rfl ?_
 intro F ρ hρ
 refine Sr (Pa (Bv false) rfl rfl (Ns (Pu (.agg #[(Iv 1), (Iv 0), (Iv 0), (Iv 0), (Iv 0), (Iv 0), (Iv 0), (Iv 0), (Iv 0), (Bv false), (Sv ⟨#[]⟩), (Sv ⟨#[]⟩), (Sv ⟨#[]⟩), (Sv ⟨#[]⟩), Zs, Zs, Zs, Zs]) (Bl (cl := [(Iv 1), (Iv 0), (Iv 0), (Iv 0), (Iv 0), (Iv 0), (Iv 0), (Iv 0), (Iv 0), (Bv false), (Sv ⟨#[]⟩), (Sv ⟨#[]⟩), (Sv ⟨#[]⟩), (Sv ⟨#[]⟩), Zs, Zs, Zs, Zs]) ze58 fp58 (Pc (Iv 1) rfl rfl Pz) rfl) rfl (We (EO.buildSliceL (cl := [(Iv 1), (Iv 0), (Iv 0), (Iv 0), (Iv 0), (Iv 0), (Iv 0), (Iv 0), (Iv 0), (Bv false), (Sv ⟨#[]⟩), (Sv ⟨#[]⟩), (Sv ⟨#[]⟩), (Sv ⟨#[]⟩), Zs, Zs, Zs, Zs]) Tryz.underlying53 iz58 rfl (Pc (.agg #[(Iv 1), (Iv 0), (Iv 0), (Iv 0), (Iv 0), (Iv 0), (Iv 0), (Iv 0), (Iv 0), (Bv false), (Sv ⟨#[]⟩), (Sv ⟨#[]⟩), (Sv ⟨#[]⟩), (Sv ⟨#[]⟩), Zs, Zs, Zs, Zs]) rfl rfl Pz) rfl) rfl ?_))))
 rintro _ _ _ - ⟨rfl, g21, rfl, rfl⟩
 have h23 : OwnS kd_api_Record M (.slice (some ⟨g21, 0, none⟩) 1 1) [(⟨(1 : Int), (0 : Int), (0 : Int), (0 : Int), (0 : Int), (0 : Int), (0 : Int), (0 : Int), (0 : Int), false, (⟨#[]⟩ : ByteArray), (⟨#[]⟩ : ByteArray), (⟨#[]⟩ : ByteArray), (⟨#[]⟩ : ByteArray), [], [], [], []⟩ : T_api_Record)] [(g21, .cells #[(Iv 1), (Iv 0), (Iv 0), (Iv 0), (Iv 0), (Iv 0), (Iv 0), (Iv 0), (Iv 0), (Bv false), (Sv ⟨#[]⟩), (Sv ⟨#[]⟩), (Sv ⟨#[]⟩), (Sv ⟨#[]⟩), Zs, Zs, Zs, Zs] 58 (0, 0))] := OwnS.rows (css := [[(Iv 1), (Iv 0), (Iv 0), (Iv 0), (Iv 0), (Iv 0), (Iv 0), (Iv 0), (Iv 0), (Bv false), (Sv ⟨#[]⟩), (Sv ⟨#[]⟩), (Sv ⟨#[]⟩), (Sv ⟨#[]⟩), Zs, Zs, Zs, Zs]]) (Rows.cons (kd_api_Record_mk (x := (⟨(1 : Int), (0 : Int), (0 : Int), (0 : Int), (0 : Int), (0 : Int), (0 : Int), (0 : Int), (0 : Int), false, (⟨#[]⟩ : ByteArray), (⟨#[]⟩ : ByteArray), (⟨#[]⟩ : ByteArray), (⟨#[]⟩ : ByteArray), [], [], [], []⟩ : T_api_Record)) (RS.nil _ _) (RS.nil _ _) (RS.nil _ _) (RS.nil _ _)) Rows.nil) rfl rfl
 refine Pu (.agg #[(Iv 3), (Iv 6), (.slice (some ⟨g21, 0, none⟩) 1 1)]) (Bl (cl := [(Iv 3), (Iv 6), (.slice (some ⟨g21, 0, none⟩) 1 1)]) ze55 fp55 (Pc (Iv 3) rfl rfl (Pc (Iv 6) rfl rfl (Parts.cons ((congrArg Value.cells (show ev _ _ = (.slice (some ⟨g21, 0, none⟩) 1 1) from rfl)).trans h23.cells) Pz))) rfl) rfl (WL.know (fun _ hs => h23.rs hs) (fun hf28 => ?_))
 refine WL.freeze (fun hle27 => ?_)
 refine We (EO.buildSliceL (cl := [(Iv 3), (Iv 6), (.slice (some ⟨g21, 0, none⟩) 1 1)]) Tryz.underlying22 iz55 rfl (Pc (.agg #[(Iv 3), (Iv 6), (.slice (some ⟨g21, 0, none⟩) 1 1)]) rfl rfl Pz) rfl) rfl ?_
 rintro _ _ _ - ⟨rfl, g29, rfl, rfl⟩
 have h31 : OwnS kd_api_Batch (M.add [(g21, .cells #[(Iv 1), (Iv 0), (Iv 0), (Iv 0), (Iv 0), (Iv 0), (Iv 0), (Iv 0), (Iv 0), (Bv false), (Sv ⟨#[]⟩), (Sv ⟨#[]⟩), (Sv ⟨#[]⟩), (Sv ⟨#[]⟩), Zs, Zs, Zs, Zs] 58 (0, 0))]) (.slice (some ⟨g29, 0, none⟩) 1 1) [(⟨(3 : Int), (6 : Int), [(⟨(1 : Int), (0 : Int), (0 : Int), (0 : Int), (0 : Int), (0 : Int), (0 : Int), (0 : Int), (0 : Int), false, (⟨#[]⟩ : ByteArray), (⟨#[]⟩ : ByteArray), (⟨#[]⟩ : ByteArray), (⟨#[]⟩ : ByteArray), [], [], [], []⟩ : T_api_Record)]⟩ : T_api_Batch)] [(g29, .cells #[(Iv 3), (Iv 6), (.slice (some ⟨g21, 0, none⟩) 1 1)] 55 (0, 0))] := OwnS.rows (css := [[(Iv 3), (Iv 6), (.slice (some ⟨g21, 0, none⟩) 1 1)]]) (Rows.cons (kd_api_Batch_mk (x := (⟨(3 : Int), (6 : Int), [(⟨(1 : Int), (0 : Int), (0 : Int), (0 : Int), (0 : Int), (0 : Int), (0 : Int), (0 : Int), (0 : Int), false, (⟨#[]⟩ : ByteArray), (⟨#[]⟩ : ByteArray), (⟨#[]⟩ : ByteArray), (⟨#[]⟩ : ByteArray), [], [], [], []⟩ : T_api_Record)]⟩ : T_api_Batch)) hf28) Rows.nil) rfl rfl
 refine Pu (.agg #[(Iv 4), (Iv 1), (Iv 2), (Iv 3), (Bv false), (Bv false), (Iv 1), (Iv 5), (Iv 2), (Iv 4), (Iv 0), (.slice (some ⟨g29, 0, none⟩) 1 1), (Iv 0), (Iv 0), Zs]) (Bl (cl := [(Iv 4), (Iv 1), (Iv 2), (Iv 3), (Bv false), (Bv false), (Iv 1), (Iv 5), (Iv 2), (Iv 4), (Iv 0), (.slice (some ⟨g29, 0, none⟩) 1 1), (Iv 0), (Iv 0), Zs]) ze25 fp25 (Pc (Iv 4) rfl rfl (Pc (Iv 1) rfl rfl (Pc (Iv 2) rfl rfl (Pc (Iv 3) rfl rfl (Pc (Iv 1) rfl rfl (Pc (Iv 5) rfl rfl (Pc (Iv 2) rfl rfl (Pc (Iv 4) rfl rfl (Parts.cons ((congrArg Value.cells (show ev _ _ = (.slice (some ⟨g29, 0, none⟩) 1 1) from rfl)).trans h31.cells) Pz))))))))) rfl) rfl (We (Al ze25 rfl) rfl ?_)
 rintro _ _ _ - ⟨rfl, g32, rfl, rfl⟩
 refine We (Sg (v := (.agg #[(Iv 4), (Iv 1), (Iv 2), (Iv 3), (Bv false), (Bv false), (Iv 1), (Iv 5), (Iv 2), (Iv 4), (Iv 0), (.slice (some ⟨g29, 0, none⟩) 1 1), (Iv 0), (Iv 0), Zs])) (vl := [(Iv 4), (Iv 1), (Iv 2), (Iv 3), (Bv false), (Bv false), (Iv 1), (Iv 5), (Iv 2), (Iv 4), (Iv 0), (.slice (some ⟨g29, 0, none⟩) 1 1), (Iv 0), (Iv 0), Zs]) (arr' := [(Iv 4), (Iv 1), (Iv 2), (Iv 3), (Bv false), (Bv false), (Iv 1), (Iv 5), (Iv 2), (Iv 4), (Iv 0), (.slice (some ⟨g29, 0, none⟩) 1 1), (Iv 0), (Iv 0), Zs]) rfl sz25 rfl rfl (onesOf (Oc rfl (Oc rfl (Oc rfl (Oc rfl (Oc rfl (Oc rfl (Oc rfl (Oc rfl (Oc rfl (Oc rfl (Oc rfl (Oc (Ow h31) (Oc rfl (Oc rfl (Oc rfl Oz)))))))))))))))) rfl rfl (by kernel_rfl)) rfl ?_
 rintro _ _ _ - ⟨rfl, rfl⟩
 refine Ns (Pu (.agg #[(Iv 4), (Iv 1), (Iv 2), (Iv 3), (Bv false), (Bv false), (Iv 1), (Iv 5), (Iv 2), (Iv 4), (Iv 0), (.slice (some ⟨g29, 0, none⟩) 1 1), (Iv 0), (Iv 0), Zs]) (La (cs := [(Iv 4), (Iv 1), (Iv 2), (Iv 3), (Bv false), (Bv false), (Iv 1), (Iv 5), (Iv 2), (Iv 4), (Iv 0), (.slice (some ⟨g29, 0, none⟩) 1 1), (Iv 0), (Iv 0), Zs]) 0 ag25 sz25 rfl rfl rfl) rfl ?_)
 obtain ⟨⟨r33, r34⟩, hr35, h⟩ := bnd h
 refine WL.f1 (We (Cb co10 (Tri.lend h31.excl fun w0_ H0_ hs0_ => (f_rpc_Put_ok (⟨(4 : Int), (1 : Int), (2 : Int), (3 : Int), false, false, (1 : Int), (5 : Int), (2 : Int), (4 : Int), (0 : Int), [(⟨(3 : Int), (6 : Int), [(⟨(1 : Int), (0 : Int), (0 : Int), (0 : Int), (0 : Int), (0 : Int), (0 : Int), (0 : Int), (0 : Int), false, (⟨#[]⟩ : ByteArray), (⟨#[]⟩ : ByteArray), (⟨#[]⟩ : ByteArray), (⟨#[]⟩ : ByteArray), [], [], [], []⟩ : T_api_Record)]⟩ : T_api_Batch)], (0 : Int), (0 : Int), []⟩ : T_api_Rpc) _ _ _ (h31.rs hs0_) (RS.nil _ _) (r33, r34) hr35)) (args1 rfl)) rfl ?_)
 rintro _ _ _ hle37 ⟨_, ⟨Ml40, Hl41, hll42, rfl, rfl, ⟨vq38_1, cq38_1, rfl, rfl, hq38_1⟩⟩, rfl⟩
 have hq38_1 : OwnS (Kd.int .u8) (Ml40.minus [(g29, .cells #[(Iv 3), (Iv 6), (.slice (some ⟨g21, 0, none⟩) 1 1)] 55 (0, 0))]) vq38_1 r33.Body cq38_1 := hq38_1.any (Kd.int_flat _)
 refine WL.a2 (Pm (.tuple #[(.agg #[(Iv r33.Kind), vq38_1]), (GV r34)]) rfl rfl (Pu (.agg #[(Iv r33.Kind), vq38_1]) (Xt rfl rfl) rfl (Pu (GV r34) (Xt rfl rfl) rfl (We (Al ze29 rfl) rfl ?_))))
 rintro _ _ _ - ⟨rfl, g43, rfl, rfl⟩
 refine We (Sg (v := (.agg #[(Iv r33.Kind), vq38_1])) (vl := [(Iv r33.Kind), vq38_1]) (arr' := [(Iv r33.Kind), vq38_1]) rfl sz29 rfl rfl (onesOf (Oc rfl (Oc (Ow hq38_1) Oz))) rfl rfl rfl) rfl ?_
 rintro _ _ _ - ⟨rfl, rfl⟩
 refine Pa (GV r34) rfl rfl (Ns (Pu (.agg #[(Iv r33.Kind), vq38_1]) (La (cs := [(Iv r33.Kind), vq38_1]) 0 ag29 sz29 rfl rfl rfl) rfl (Wb (WL.know (fun _ hs => hq38_1.rs hs) (fun hf45 => ?_)))))
 refine WL.freeze (fun hle44 => ?_)
 obtain ⟨⟨r46, r47⟩, hr48, h⟩ := bnd h
 have hE := hE.mono ((hle27.trans hle37).trans hle44)
 refine We (Ca co11 (f_rpc_Read_ok r33 _ _ hf45 hE (r46, r47) hr48) (args1 rfl)) rfl ?_
 rintro _ M49 _ hle50 ⟨_, ⟨vq51_11, cq51_11, vq51_14, cq51_14, rfl, rfl, hq51_11, hq51_14⟩, rfl⟩
 refine WL.a2 (Pm (.tuple #[(a25_ r46 vq51_11 vq51_14), (GV r47)]) rfl rfl (Pu (a25_ r46 vq51_11 vq51_14) (Xt rfl rfl) rfl (Pu (GV r47) (Xt rfl rfl) rfl (We (Al ze25 rfl) rfl ?_))))
 rintro _ _ _ - ⟨rfl, g53, rfl, rfl⟩
 refine We (Sg (v := (a25_ r46 vq51_11 vq51_14)) (vl := (l25 r46 vq51_11 vq51_14)) (arr' := (l25 r46 vq51_11 vq51_14)) rfl sz25 rfl rfl (onesOf (Oc rfl (Oc rfl (Oc rfl (Oc rfl (Oc rfl (Oc rfl (Oc rfl (Oc rfl (Oc rfl (Oc rfl (Oc rfl (Oc (Ow hq51_11) (Oc rfl (Oc rfl (Oc (Ow hq51_14) Oz)))))))))))))))) rfl rfl (by kernel_rfl)) rfl ?_
 rintro _ _ _ - ⟨rfl, rfl⟩
 refine Pa (GV r47) rfl rfl (Ns (Pu (.agg #[(Iv 9), Zs]) (Bl (cl := [(Iv 9), Zs]) ze29 fp29 (Pc (Iv 9) rfl rfl Pz) rfl) rfl ?_))
 obtain ⟨⟨r54, r55⟩, hr56, h⟩ := bnd h
 have hE := hE.mono hle50
 refine We (Ca co11 (f_rpc_Read_ok (⟨(9 : Int), []⟩ : T_api_Frame) _ _ (RS.nil _ _) hE (r54, r55) hr56) (args1 rfl)) rfl ?_
 rintro _ M57 _ hle58 ⟨_, ⟨vq59_11, cq59_11, vq59_14, cq59_14, rfl, rfl, hq59_11, hq59_14⟩, rfl⟩
 refine WL.a2 (Pm (.tuple #[(a25_ r54 vq59_11 vq59_14), (GV r55)]) rfl rfl (Pu (a25_ r54 vq59_11 vq59_14) (Xt rfl rfl) rfl (Pu (GV r55) (Xt rfl rfl) rfl (We (Al ze25 rfl) rfl ?_))))
 rintro _ _ _ - ⟨rfl, g61, rfl, rfl⟩
 refine We (Sg (v := (a25_ r54 vq59_11 vq59_14)) (vl := (l25 r54 vq59_11 vq59_14)) (arr' := (l25 r54 vq59_11 vq59_14)) rfl sz25 rfl rfl (onesOf (Oc rfl (Oc rfl (Oc rfl (Oc rfl (Oc rfl (Oc rfl (Oc rfl (Oc rfl (Oc rfl (Oc rfl (Oc rfl (Oc (Ow hq59_11) (Oc rfl (Oc rfl (Oc (Ow hq59_14) Oz)))))))))))))))) rfl rfl (by kernel_rfl)) rfl ?_
 rintro _ _ _ - ⟨rfl, rfl⟩
 refine Pa (GV r55) rfl rfl (Nt ?_)
 obtain ⟨j64, hj64, h⟩ := bnd h
 refine Jf (fun (p_ : (Bool × (List T_api_Batch))) ρ' M' H' => match p_ with | (x62, x63) => ∃ vx63, M57.le M' ∧ [(g61, .cells (l25 r54 vq59_11 vq59_14).toArray 25 (0, 0))] :: [(g53, .cells (l25 r46 vq51_11 vq51_14).toArray 25 (0, 0))] :: [(g43, .cells #[(Iv r33.Kind), vq38_1] 29 (0, 0))] :: [(g32, .cells #[(Iv 4), (Iv 1), (Iv 2), (Iv 3), (Bv false), (Bv false), (Iv 1), (Iv 5), (Iv 2), (Iv 4), (Iv 0), vx63, (Iv 0), (Iv 0), Zs] 25 (0, 0))] :: cq59_11 :: cq59_14 :: cq51_11 :: cq51_14 :: F = H' ∧ ρ' 0 = (Bv x62) ∧ RS kd_api_Batch M' vx63 x63) j64 ?_ ?_
 have h364 := h
 have h := hj64
 refine WC.draw [0, 1, 3, 7, 15, 31, 63, 127, 255, 511, 1023, 2047, 4095, 4095, 16383, 32767, 65535, 131071, 262143, 524287, 1048575, 2097151, 4194303, 8388607, 16777215, 33554431, 67108863, 134217727, 268435455, 536870911, 1073741823, 2147483647, 2147483647, 6442450943, 17179869183, 34359738367, 68719476735, 137438953471, 137438953471, 549755813887, 1099511627775, 2199023255551, 4398046511103] (.pure 0 (.pure 1 (.pure 2 (.pure 3 (.pure 4 (.pure 5 (.pure 6 (.pure 7 (.pure 8 (.pure 9 (.pure 10 (.pure 11 (.pure 12 (.pure 13 (.alt 14 (.pure 15 (.pure 16 (.pure 17 (.alt 18 (.pure 19 (.pure 20 (.pure 21 (.alt 22 (.pure 23 (.pure 24 (.pure 25 (.pure 26 (.alt 27 (.alt 28 (.pure 29 (.pure 30 (.pure 31 (.pure 32 (.alt 33 (.alt 34 (.pure 35 (.pure 36 (.pure 37 (.pure 38 (.alt 39 (.pure 40 (.pure 41 (.pure 42 .done))) .none))))) .none) .none))))) .none) .none))))) .none)))) .none)))) .none))))))))))))))) mixed (by kernel_rfl) (Tp (GV r34) rfl (Mv rfl) rfl (Tp (Bv r34.isNil) rfl (PO.errNil Tryz.underlying31 rfl) rfl (Tp (Bv r34.isNil) rfl (Mv rfl) rfl ?_)))
 rcases Bt (r34.isNil) with hb65 | hb65
 have h := ite_t hb65 h
 refine Tn (pt g43 0) 30 rfl rfl rfl hb65 (Fa fo29_0 rfl rfl) rfl (Tn (Iv r33.Kind) 30 rfl rfl rfl hb65 (Lb 6 pl3 rfl rfl rfl) rfl (Tn (Bv (decide (r33.Kind = 4))) 30 rfl rfl rfl hb65 (PO.eql rfl rfl) rfl (Tp (Bv (decide (r33.Kind = 4))) rfl (Pt rfl hb65 rfl) rfl (Tp (Bv (decide (r33.Kind = 4))) rfl (Mv rfl) rfl ?_))))
 rcases Bt (decide (r33.Kind = 4)) with hb66 | hb66
 have h := ite_t hb66 h
 refine Tn (GV r47) 35 rfl rfl rfl hb66 (Mv rfl) rfl (Tn (Bv r47.isNil) 35 rfl rfl rfl hb66 (PO.errNil Tryz.underlying31 rfl) rfl (Tp (Bv r47.isNil) rfl (Pt rfl hb66 rfl) rfl (Tp (Bv r47.isNil) rfl (Mv rfl) rfl ?_)))
 rcases Bt (r47.isNil) with hb67 | hb67
 have h := ite_t hb67 h
 refine Tn (a25_ r46 vq51_11 vq51_14) 39 rfl rfl rfl hb67 (La (cs := (l25 r46 vq51_11 vq51_14)) 3 ag25 sz25 rfl rfl rfl) rfl (Tn (.agg #[(Iv 4), (Iv 1), (Iv 2), (Iv 3), (Bv false), (Bv false), (Iv 1), (Iv 5), (Iv 2), (Iv 4), (Iv 0), (.slice (some ⟨g29, 0, none⟩) 1 1), (Iv 0), (Iv 0), Zs]) 39 rfl rfl rfl hb67 (La (cs := [(Iv 4), (Iv 1), (Iv 2), (Iv 3), (Bv false), (Bv false), (Iv 1), (Iv 5), (Iv 2), (Iv 4), (Iv 0), (.slice (some ⟨g29, 0, none⟩) 1 1), (Iv 0), (Iv 0), Zs]) 8 ag25 sz25 rfl rfl rfl) rfl ?_)
 obtain ⟨r68, hr69, h⟩ := bnd h
 refine WT.f7 (WT.f6 (WT.f6 ?_))
 have hq51_11 := hq51_11.mono hle58
 have hq51_14 := hq51_14.mono hle58
 have h31 := h31.mono (((hle37.trans hle44).trans hle50).trans hle58)
 refine WT.altOn 39 rfl rfl rfl hb67 (EO.call3 co17 (Tri.lend hq51_11.excl fun w0_ H0_ hs0_ => (Tri.lend hq51_14.excl fun w1_ H1_ hs1_ => (Tri.lend h31.excl fun w2_ H2_ hs2_ => (f_rpc_Same_ok r46 (⟨(4 : Int), (1 : Int), (2 : Int), (3 : Int), false, false, (1 : Int), (5 : Int), (2 : Int), (4 : Int), (0 : Int), [(⟨(3 : Int), (6 : Int), [(⟨(1 : Int), (0 : Int), (0 : Int), (0 : Int), (0 : Int), (0 : Int), (0 : Int), (0 : Int), (0 : Int), false, (⟨#[]⟩ : ByteArray), (⟨#[]⟩ : ByteArray), (⟨#[]⟩ : ByteArray), (⟨#[]⟩ : ByteArray), [], [], [], []⟩ : T_api_Record)]⟩ : T_api_Batch)], (0 : Int), (0 : Int), []⟩ : T_api_Rpc) _ _ _ _ _ (((hq51_11.rs hs0_).mono (IM.le_add _ _)).mono (IM.le_add _ _)) (((hq51_14.mono (IM.le_add _ _)).rs hs1_).mono (IM.le_add _ _)) (((h31.mono (IM.le_add _ _)).mono (IM.le_add _ _)).rs hs2_) (RS.nil _ _) r68 hr69)))) (args2 rfl rfl)) rfl ?_ ?_
 rintro _ _ _ hle71 ⟨_, ⟨Ml79, Hl80, hll81, rfl, rfl, ⟨Ml76, Hl77, hll78, rfl, rfl, ⟨Ml73, Hl74, hll75, rfl, rfl, ⟨rfl, rfl⟩⟩⟩⟩, rfl⟩
 refine ⟨(Sl rfl), ?_⟩
 refine WT.a3 (Tp (Bv r68) rfl (Pt rfl hb67 rfl) rfl (Tp (Bv r68) rfl (Mv rfl) rfl ?_))
 rcases Bt (r68) with hb82 | hb82
 have h := ite_t hb82 h
 refine Tn (GV r55) 44 rfl rfl rfl hb82 (Mv rfl) rfl ?_
 obtain ⟨r83, hr84, h⟩ := bnd h
 refine WT.altOn 44 rfl rfl rfl hb82 (Ca co22 (f_fault_Is_ok r55 (5 : Int) _ r83 hr84) (args2 rfl rfl)) rfl ?_ ?_
 rintro _ M85 _ hle86 ⟨_, ⟨rfl, rfl⟩, rfl⟩
 refine ⟨(Sl rfl), ?_⟩
 refine WT.a0 (Tp (Bv r83) rfl (Pt rfl hb82 rfl) rfl (Tp (Bv r83) rfl (Mv rfl) rfl ?_))
 rcases Bt (r83) with hb88 | hb88
 have h := ite_t hb88 h
 refine Tn (.agg #[(Iv 4), (Iv 1), (Iv 2), (Iv 3), (Bv false), (Bv false), (Iv 1), (Iv 5), (Iv 2), (Iv 4), (Iv 0), (.slice (some ⟨g29, 0, none⟩) 1 1), (Iv 0), (Iv 0), Zs]) 48 rfl rfl rfl hb88 (La (cs := [(Iv 4), (Iv 1), (Iv 2), (Iv 3), (Bv false), (Bv false), (Iv 1), (Iv 5), (Iv 2), (Iv 4), (Iv 0), (.slice (some ⟨g29, 0, none⟩) 1 1), (Iv 0), (Iv 0), Zs]) 8 ag25 sz25 rfl rfl rfl) rfl ?_
 obtain ⟨r89, hr90, h⟩ := bnd h
 refine WT.f2 ?_
 have h31 := h31.mono (hle71.trans hle86)
 refine WT.altOn 48 rfl rfl rfl hb88 (Cb co16 (Tri.lend h31.excl fun w0_ H0_ hs0_ => (f_rpc_Check_ok (⟨(4 : Int), (1 : Int), (2 : Int), (3 : Int), false, false, (1 : Int), (5 : Int), (2 : Int), (4 : Int), (0 : Int), [(⟨(3 : Int), (6 : Int), [(⟨(1 : Int), (0 : Int), (0 : Int), (0 : Int), (0 : Int), (0 : Int), (0 : Int), (0 : Int), (0 : Int), false, (⟨#[]⟩ : ByteArray), (⟨#[]⟩ : ByteArray), (⟨#[]⟩ : ByteArray), (⟨#[]⟩ : ByteArray), [], [], [], []⟩ : T_api_Record)]⟩ : T_api_Batch)], (0 : Int), (0 : Int), []⟩ : T_api_Rpc) _ _ _ (h31.rs hs0_) (RS.nil _ _) r89 hr90)) (args1 rfl)) rfl ?_ ?_
 rintro _ _ _ hle92 ⟨_, ⟨Ml94, Hl95, hll96, rfl, rfl, ⟨rfl, rfl⟩⟩, rfl⟩
 refine ⟨(Sl rfl), ?_⟩
 refine WT.a1 (Tn (Bv r89.isNil) 48 rfl rfl rfl hb88 (PO.errNil Tryz.underlying31 rfl) rfl (Tp (Bv r89.isNil) rfl (Pt rfl hb88 rfl) rfl (Tp (Bv r89.isNil) rfl (Mv rfl) rfl ?_)))
 rcases Bt (r89.isNil) with hb97 | hb97
 have h := ite_t hb97 h
 refine Tn (.agg #[(Iv 1), (Iv 1), (Iv 1), (Iv 0), (Bv false), (Bv false), (Iv 0), (Iv 0), (Iv 0), (Iv 0), (Iv 0), Zs, (Iv 0), (Iv 0), Zs]) 53 rfl rfl rfl hb97 (Bl (cl := [(Iv 1), (Iv 1), (Iv 1), (Iv 0), (Bv false), (Bv false), (Iv 0), (Iv 0), (Iv 0), (Iv 0), (Iv 0), Zs, (Iv 0), (Iv 0), Zs]) ze25 fp25 (Pc (Iv 1) rfl rfl (Pc (Iv 1) rfl rfl (Pc (Iv 1) rfl rfl Pz))) rfl) rfl ?_
 obtain ⟨r98, hr99, h⟩ := bnd h
 refine WT.altOn 53 rfl rfl rfl hb97 (Ca co16 (f_rpc_Check_ok (⟨(1 : Int), (1 : Int), (1 : Int), (0 : Int), false, false, (0 : Int), (0 : Int), (0 : Int), (0 : Int), (0 : Int), [], (0 : Int), (0 : Int), []⟩ : T_api_Rpc) _ _ _ (RS.nil _ _) (RS.nil _ _) r98 hr99) (args1 rfl)) rfl ?_ ?_
 rintro _ M100 _ hle101 ⟨_, ⟨rfl, rfl⟩, rfl⟩
 refine ⟨(Sl rfl), ?_⟩
 refine WT.a0 ?_
 obtain ⟨r103, hr104, h⟩ := bnd h
 refine WT.altOn 53 rfl rfl rfl hb97 (Ca co22 (f_fault_Is_ok r98 (2 : Int) _ r103 hr104) (args2 rfl rfl)) rfl ?_ ?_
 rintro _ M105 _ hle106 ⟨_, ⟨rfl, rfl⟩, rfl⟩
 refine ⟨(Sl rfl), ?_⟩
 refine WT.a0 (Tp (Bv r103) rfl (Pt rfl hb97 rfl) rfl (Tp (Bv r103) rfl (Mv rfl) rfl ?_))
 rcases Bt (r103) with hb108 | hb108
 have h := ite_t hb108 h
 refine Tn (.agg #[(Iv 4), (Iv 1), (Iv 2), (Iv 3), (Bv false), (Bv false), (Iv 1), (Iv 5), (Iv 2), (Iv 4), (Iv 0), (.slice (some ⟨g29, 0, none⟩) 1 1), (Iv 0), (Iv 0), Zs]) 58 rfl rfl rfl hb108 (La (cs := [(Iv 4), (Iv 1), (Iv 2), (Iv 3), (Bv false), (Bv false), (Iv 1), (Iv 5), (Iv 2), (Iv 4), (Iv 0), (.slice (some ⟨g29, 0, none⟩) 1 1), (Iv 0), (Iv 0), Zs]) 8 ag25 sz25 rfl rfl rfl) rfl (Tn (.agg #[(Iv 4), (Iv 1), (Iv 2), (Iv 3), (Bv false), (Bv false), (Iv 1), (Iv 5), (Iv 2), (Iv 4), (Iv 0), (.slice (some ⟨g29, 0, none⟩) 1 1), (Iv 0), (Iv 0), Zs]) 58 rfl rfl rfl hb108 (La (cs := [(Iv 4), (Iv 1), (Iv 2), (Iv 3), (Bv false), (Bv false), (Iv 1), (Iv 5), (Iv 2), (Iv 4), (Iv 0), (.slice (some ⟨g29, 0, none⟩) 1 1), (Iv 0), (Iv 0), Zs]) 8 ag25 sz25 rfl rfl rfl) rfl ?_)
 have h31 := h31.mono ((hle92.trans hle101).trans hle106)
 refine WT.know (fun _ hs => h31.rs hs) (fun hf110 => ?_)
 refine WT.freeze (fun hle109 => ?_)
 obtain ⟨r111, hr112, h⟩ := bnd h
 refine WT.altOn 58 rfl rfl rfl hb108 (Ca co18 (f_rpc_Copy_ok (⟨(4 : Int), (1 : Int), (2 : Int), (3 : Int), false, false, (1 : Int), (5 : Int), (2 : Int), (4 : Int), (0 : Int), [(⟨(3 : Int), (6 : Int), [(⟨(1 : Int), (0 : Int), (0 : Int), (0 : Int), (0 : Int), (0 : Int), (0 : Int), (0 : Int), (0 : Int), false, (⟨#[]⟩ : ByteArray), (⟨#[]⟩ : ByteArray), (⟨#[]⟩ : ByteArray), (⟨#[]⟩ : ByteArray), [], [], [], []⟩ : T_api_Record)]⟩ : T_api_Batch)], (0 : Int), (0 : Int), []⟩ : T_api_Rpc) _ _ _ hf110 (RS.nil _ _) r111 hr112) (args1 rfl)) rfl ?_ ?_
 rintro _ M113 _ hle114 ⟨_, ⟨vq115_11, cq115_11, vq115_14, cq115_14, rfl, rfl, hq115_11, hq115_14⟩, rfl⟩
 refine ⟨(Sk 1 rfl (St (StabA.on 58 rfl rfl rfl hb108 (La (cs := [(Iv 4), (Iv 1), (Iv 2), (Iv 3), (Bv false), (Bv false), (Iv 1), (Iv 5), (Iv 2), (Iv 4), (Iv 0), (.slice (some ⟨g29, 0, none⟩) 1 1), (Iv 0), (Iv 0), Zs]) 9 ag25 sz25 rfl rfl rfl) rfl) (Sl rfl))), ?_⟩
 refine WT.a2 ?_
 obtain ⟨r116, hr117, h⟩ := bnd h
 refine WT.f1 (WT.f1 ?_)
 have hf110 := hf110.mono hle114
 refine WT.altOn 58 rfl rfl rfl hb108 (EO.call2 co17 (Tri.lend hq115_11.excl fun w0_ H0_ hs0_ => (Tri.lend hq115_14.excl fun w1_ H1_ hs1_ => (f_rpc_Same_ok (⟨(4 : Int), (1 : Int), (2 : Int), (3 : Int), false, false, (1 : Int), (5 : Int), (2 : Int), (4 : Int), (0 : Int), [(⟨(3 : Int), (6 : Int), [(⟨(1 : Int), (0 : Int), (0 : Int), (0 : Int), (0 : Int), (0 : Int), (0 : Int), (0 : Int), (0 : Int), false, (⟨#[]⟩ : ByteArray), (⟨#[]⟩ : ByteArray), (⟨#[]⟩ : ByteArray), (⟨#[]⟩ : ByteArray), [], [], [], []⟩ : T_api_Record)]⟩ : T_api_Batch)], (0 : Int), (0 : Int), []⟩ : T_api_Rpc) r111 _ _ _ _ _ ((hf110.mono (IM.le_add _ _)).mono (IM.le_add _ _)) (RS.nil _ _) ((hq115_11.rs hs0_).mono (IM.le_add _ _)) ((hq115_14.mono (IM.le_add _ _)).rs hs1_) r116 hr117))) (args2 rfl rfl)) rfl ?_ ?_
 rintro _ _ _ hle119 ⟨_, ⟨Ml124, Hl125, hll126, rfl, rfl, ⟨Ml121, Hl122, hll123, rfl, rfl, ⟨rfl, rfl⟩⟩⟩, rfl⟩
 refine ⟨(Sl rfl), ?_⟩
 refine WT.a2 (Tp (Bv r116) rfl (Pt rfl hb108 rfl) rfl (Tp (Bv r116) rfl (Mv rfl) rfl ?_))
 rcases Bt (r116) with hb127 | hb127
 have h := ite_t hb127 h
 refine Tn (.agg #[(Iv 4), (Iv 1), (Iv 2), (Iv 3), (Bv false), (Bv false), (Iv 1), (Iv 5), (Iv 2), (Iv 4), (Iv 0), (.slice (some ⟨g29, 0, none⟩) 1 1), (Iv 0), (Iv 0), Zs]) 64 rfl rfl rfl hb127 (La (cs := [(Iv 4), (Iv 1), (Iv 2), (Iv 3), (Bv false), (Bv false), (Iv 1), (Iv 5), (Iv 2), (Iv 4), (Iv 0), (.slice (some ⟨g29, 0, none⟩) 1 1), (Iv 0), (Iv 0), Zs]) 9 ag25 sz25 rfl rfl rfl) rfl (Tn (.agg z25_.toArray) 64 rfl rfl rfl hb127 (Bl (cl := z25_) ze25 fp25 Pz rfl) rfl ?_)
 obtain ⟨r128, hr129, h⟩ := bnd h
 have hf110 := hf110.mono hle119
 refine WT.altOn 64 rfl rfl rfl hb127 (Ca co17 (f_rpc_Same_ok (⟨(4 : Int), (1 : Int), (2 : Int), (3 : Int), false, false, (1 : Int), (5 : Int), (2 : Int), (4 : Int), (0 : Int), [(⟨(3 : Int), (6 : Int), [(⟨(1 : Int), (0 : Int), (0 : Int), (0 : Int), (0 : Int), (0 : Int), (0 : Int), (0 : Int), (0 : Int), false, (⟨#[]⟩ : ByteArray), (⟨#[]⟩ : ByteArray), (⟨#[]⟩ : ByteArray), (⟨#[]⟩ : ByteArray), [], [], [], []⟩ : T_api_Record)]⟩ : T_api_Batch)], (0 : Int), (0 : Int), []⟩ : T_api_Rpc) (⟨(0 : Int), (0 : Int), (0 : Int), (0 : Int), false, false, (0 : Int), (0 : Int), (0 : Int), (0 : Int), (0 : Int), [], (0 : Int), (0 : Int), []⟩ : T_api_Rpc) _ _ _ _ _ hf110 (RS.nil _ _) (RS.nil _ _) (RS.nil _ _) r128 hr129) (args2 rfl rfl)) rfl ?_ ?_
 rintro _ M130 _ hle131 ⟨_, ⟨rfl, rfl⟩, rfl⟩
 refine ⟨(Sl rfl), ?_⟩
 refine WT.a0 (Tn (Bv (!r128)) 64 rfl rfl rfl hb127 (PO.not rfl) rfl (Tp (Bv (!r128)) rfl (Pt rfl hb127 rfl) rfl (Tp (Bv (!r128)) rfl (Ag rfl) rfl (Ti (Dr (Dr (Qa (Qa (WQ.f4 (WQ.f4 (WQ.f7 ?_)))))))))))
 refine WQ.f7 (WQ.f7 (WQ.f7 ?_))
 obtain rfl := oi h
 refine Tj ?_
 have hf110 := hf110.mono hle131
 exact ⟨(.slice (some ⟨g29, 0, none⟩) 1 1), ((((((((hle71.trans hle86).trans hle92).trans hle101).trans hle106).trans hle109).trans hle114).trans hle119).trans hle131), rfl, rfl, hf110⟩
 exact Tz
 have h := ite_f hb127 h
 refine Tf 64 rfl rfl rfl hb127 rfl (Tf 64 rfl rfl rfl hb127 rfl (Tg 64 rfl rfl rfl hb127 rfl ⟨(Sl rfl), ?_⟩ ?_))
 refine Tf 64 rfl rfl rfl hb127 rfl (Tp (Bv false) rfl (Pf rfl hb127 rfl) rfl (Tp (Bv false) rfl (Ag rfl) rfl (Ti (Dr (Dr (Qa (Qa (WQ.f4 (WQ.f4 (WQ.f7 (WQ.f7 ?_)))))))))))
 refine WQ.f7 (WQ.f7 ?_)
 obtain rfl := oi h
 refine Tj ?_
 have hf110 := hf110.mono hle119
 exact ⟨(.slice (some ⟨g29, 0, none⟩) 1 1), (((((((hle71.trans hle86).trans hle92).trans hle101).trans hle106).trans hle109).trans hle114).trans hle119), rfl, rfl, hf110⟩
 exact Tz
 exact Tz
 exact Tz
 have h := ite_f hb108 h
 refine Tf 58 rfl rfl rfl hb108 rfl (Tf 58 rfl rfl rfl hb108 rfl (Tg 58 rfl rfl rfl hb108 rfl ⟨(Sk 1 rfl (St (Sf 58 rfl rfl rfl hb108 rfl) (Sl rfl))), ?_⟩ ?_))
 refine Tg 58 rfl rfl rfl hb108 rfl ⟨(Sl rfl), ?_⟩ ?_
 refine Tp (Bv false) rfl (Pf rfl hb108 rfl) rfl (Tp (Bv false) rfl (Mv rfl) rfl (Tf 64 rfl rfl rfl rfl rfl (Tf 64 rfl rfl rfl rfl rfl (Tg 64 rfl rfl rfl rfl rfl ⟨(Sl rfl), ?_⟩ ?_))))
 refine Tf 64 rfl rfl rfl rfl rfl (Tp (Bv false) rfl (Pf rfl rfl rfl) rfl (Tp (Bv false) rfl (Ag rfl) rfl (Ti ?_)))
 have h31 := h31.mono ((hle92.trans hle101).trans hle106)
 refine WQ.know (fun _ hs => h31.rs hs) (fun hf134 => ?_)
 refine WQ.freeze (fun hle133 => ?_)
 refine Qa (Qa (WQ.f4 (WQ.f4 (WQ.f7 (WQ.f7 (WQ.f7 (WQ.f7 ?_)))))))
 obtain rfl := oi h
 exact Tj ⟨(.slice (some ⟨g29, 0, none⟩) 1 1), (((((hle71.trans hle86).trans hle92).trans hle101).trans hle106).trans hle133), rfl, rfl, hf134⟩
 exact Tz
 exact Tz
 exact Tz
 exact Tz
 exact Tz
 have h := ite_f hb97 h
 refine Tf 53 rfl rfl rfl hb97 rfl (Tg 53 rfl rfl rfl hb97 rfl ⟨(Sl rfl), ?_⟩ ?_)
 refine Tg 53 rfl rfl rfl hb97 rfl ⟨(Sl rfl), ?_⟩ ?_
 refine Tp (Bv false) rfl (Pf rfl hb97 rfl) rfl (Tp (Bv false) rfl (Mv rfl) rfl (Tf 58 rfl rfl rfl rfl rfl (Tf 58 rfl rfl rfl rfl rfl (Tg 58 rfl rfl rfl rfl rfl ⟨(Sk 1 rfl (St (Sf 58 rfl rfl rfl rfl rfl) (Sl rfl))), ?_⟩ ?_))))
 refine Tg 58 rfl rfl rfl rfl rfl ⟨(Sl rfl), ?_⟩ ?_
 refine Tp (Bv false) rfl (Pf rfl rfl rfl) rfl (Tp (Bv false) rfl (Mv rfl) rfl (Tf 64 rfl rfl rfl rfl rfl (Tf 64 rfl rfl rfl rfl rfl (Tg 64 rfl rfl rfl rfl rfl ⟨(Sl rfl), ?_⟩ ?_))))
 refine Tf 64 rfl rfl rfl rfl rfl (Tp (Bv false) rfl (Pf rfl rfl rfl) rfl (Tp (Bv false) rfl (Ag rfl) rfl (Ti ?_)))
 have h31 := h31.mono hle92
 refine WQ.know (fun _ hs => h31.rs hs) (fun hf136 => ?_)
 refine WQ.freeze (fun hle135 => ?_)
 refine Qa (Qa (WQ.f4 (WQ.f4 (WQ.f7 (WQ.f7 (WQ.f7 (WQ.f7 ?_)))))))
 obtain rfl := oi h
 exact Tj ⟨(.slice (some ⟨g29, 0, none⟩) 1 1), (((hle71.trans hle86).trans hle92).trans hle135), rfl, rfl, hf136⟩
 exact Tz
 exact Tz
 exact Tz
 exact Tz
 exact Tz
 exact Tz
 have h := ite_f hb88 h
 refine Tf 48 rfl rfl rfl hb88 rfl (Tg 48 rfl rfl rfl hb88 rfl ⟨(Sl rfl), ?_⟩ ?_)
 refine Tf 48 rfl rfl rfl hb88 rfl (Tp (Bv false) rfl (Pf rfl hb88 rfl) rfl (Tp (Bv false) rfl (Mv rfl) rfl (Tf 53 rfl rfl rfl rfl rfl (Tg 53 rfl rfl rfl rfl rfl ⟨(Sl rfl), ?_⟩ ?_))))
 refine Tg 53 rfl rfl rfl rfl rfl ⟨(Sl rfl), ?_⟩ ?_
 refine Tp (Bv false) rfl (Pf rfl rfl rfl) rfl (Tp (Bv false) rfl (Mv rfl) rfl (Tf 58 rfl rfl rfl rfl rfl (Tf 58 rfl rfl rfl rfl rfl (Tg 58 rfl rfl rfl rfl rfl ⟨(Sk 1 rfl (St (Sf 58 rfl rfl rfl rfl rfl) (Sl rfl))), ?_⟩ ?_))))
 refine Tg 58 rfl rfl rfl rfl rfl ⟨(Sl rfl), ?_⟩ ?_
 refine Tp (Bv false) rfl (Pf rfl rfl rfl) rfl (Tp (Bv false) rfl (Mv rfl) rfl (Tf 64 rfl rfl rfl rfl rfl (Tf 64 rfl rfl rfl rfl rfl (Tg 64 rfl rfl rfl rfl rfl ⟨(Sl rfl), ?_⟩ ?_))))
 refine Tf 64 rfl rfl rfl rfl rfl (Tp (Bv false) rfl (Pf rfl rfl rfl) rfl (Tp (Bv false) rfl (Ag rfl) rfl (Ti (Qb ?_))))
 have h31 := h31.mono (hle71.trans hle86)
 refine WQ.know (fun _ hs => h31.rs hs) (fun hf138 => ?_)
 refine WQ.freeze (fun hle137 => ?_)
 refine Qa (Qa (WQ.f4 (WQ.f4 (WQ.f7 (WQ.f7 (WQ.f7 (WQ.f7 ?_)))))))
 obtain rfl := oi h
 exact Tj ⟨(.slice (some ⟨g29, 0, none⟩) 1 1), ((hle71.trans hle86).trans hle137), rfl, rfl, hf138⟩
 exact Tz
 exact Tz
 exact Tz
 exact Tz
 exact Tz
 exact Tz
 exact Tz
 have h := ite_f hb82 h
 refine Tf 44 rfl rfl rfl hb82 rfl (Tg 44 rfl rfl rfl hb82 rfl ⟨(Sl rfl), ?_⟩ ?_)
 refine Tp (Bv false) rfl (Pf rfl hb82 rfl) rfl (Tp (Bv false) rfl (Mv rfl) rfl (Tf 48 rfl rfl rfl rfl rfl (Tg 48 rfl rfl rfl rfl rfl ⟨(Sl rfl), ?_⟩ ?_)))
 refine Tf 48 rfl rfl rfl rfl rfl (Tp (Bv false) rfl (Pf rfl rfl rfl) rfl (Tp (Bv false) rfl (Mv rfl) rfl (Tf 53 rfl rfl rfl rfl rfl (Tg 53 rfl rfl rfl rfl rfl ⟨(Sl rfl), ?_⟩ ?_))))
 refine Tg 53 rfl rfl rfl rfl rfl ⟨(Sl rfl), ?_⟩ ?_
 refine Tp (Bv false) rfl (Pf rfl rfl rfl) rfl (Tp (Bv false) rfl (Mv rfl) rfl (Tf 58 rfl rfl rfl rfl rfl (Tf 58 rfl rfl rfl rfl rfl (Tg 58 rfl rfl rfl rfl rfl ⟨(Sk 1 rfl (St (Sf 58 rfl rfl rfl rfl rfl) (Sl rfl))), ?_⟩ ?_))))
 refine Tg 58 rfl rfl rfl rfl rfl ⟨(Sl rfl), ?_⟩ ?_
 refine Tp (Bv false) rfl (Pf rfl rfl rfl) rfl (Tp (Bv false) rfl (Mv rfl) rfl (Tf 64 rfl rfl rfl rfl rfl (Tf 64 rfl rfl rfl rfl rfl (Tg 64 rfl rfl rfl rfl rfl ⟨(Sl rfl), ?_⟩ ?_))))
 refine Tf 64 rfl rfl rfl rfl rfl (Tp (Bv false) rfl (Pf rfl rfl rfl) rfl (Tp (Bv false) rfl (Ag rfl) rfl (Ti (Qb ?_))))
 have h31 := h31.mono hle71
 refine WQ.know (fun _ hs => h31.rs hs) (fun hf140 => ?_)
 refine WQ.freeze (fun hle139 => ?_)
 refine Qa (Qa (WQ.f4 (WQ.f4 (WQ.f7 (WQ.f7 (WQ.f7 (WQ.f7 ?_)))))))
 obtain rfl := oi h
 exact Tj ⟨(.slice (some ⟨g29, 0, none⟩) 1 1), (hle71.trans hle139), rfl, rfl, hf140⟩
 exact Tz
 exact Tz
 exact Tz
 exact Tz
 exact Tz
 exact Tz
 exact Tz
 exact Tz
 have h := ite_f hb67 h
 refine Tf 39 rfl rfl rfl hb67 rfl (Tf 39 rfl rfl rfl hb67 rfl (Tg 39 rfl rfl rfl hb67 rfl ⟨(Sl rfl), ?_⟩ ?_))
 refine Tp (Bv false) rfl (Pf rfl hb67 rfl) rfl (Tp (Bv false) rfl (Mv rfl) rfl (Tf 44 rfl rfl rfl rfl rfl (Tg 44 rfl rfl rfl rfl rfl ⟨(Sl rfl), ?_⟩ ?_)))
 refine Tp (Bv false) rfl (Pf rfl rfl rfl) rfl (Tp (Bv false) rfl (Mv rfl) rfl (Tf 48 rfl rfl rfl rfl rfl (Tg 48 rfl rfl rfl rfl rfl ⟨(Sl rfl), ?_⟩ ?_)))
 refine Tf 48 rfl rfl rfl rfl rfl (Tp (Bv false) rfl (Pf rfl rfl rfl) rfl (Tp (Bv false) rfl (Mv rfl) rfl (Tf 53 rfl rfl rfl rfl rfl (Tg 53 rfl rfl rfl rfl rfl ⟨(Sl rfl), ?_⟩ ?_))))
 refine Tg 53 rfl rfl rfl rfl rfl ⟨(Sl rfl), ?_⟩ ?_
 refine Tp (Bv false) rfl (Pf rfl rfl rfl) rfl (Tp (Bv false) rfl (Mv rfl) rfl (Tf 58 rfl rfl rfl rfl rfl (Tf 58 rfl rfl rfl rfl rfl (Tg 58 rfl rfl rfl rfl rfl ⟨(Sk 1 rfl (St (Sf 58 rfl rfl rfl rfl rfl) (Sl rfl))), ?_⟩ ?_))))
 refine Tg 58 rfl rfl rfl rfl rfl ⟨(Sl rfl), ?_⟩ ?_
 refine Tp (Bv false) rfl (Pf rfl rfl rfl) rfl (Tp (Bv false) rfl (Mv rfl) rfl (Tf 64 rfl rfl rfl rfl rfl (Tf 64 rfl rfl rfl rfl rfl (Tg 64 rfl rfl rfl rfl rfl ⟨(Sl rfl), ?_⟩ ?_))))
 refine Tf 64 rfl rfl rfl rfl rfl (Tp (Bv false) rfl (Pf rfl rfl rfl) rfl (Tp (Bv false) rfl (Ag rfl) rfl (Ti (WQ.f7 ?_))))
 have h31 := h31.mono (((hle37.trans hle44).trans hle50).trans hle58)
 refine WQ.know (fun _ hs => h31.rs hs) (fun hf142 => ?_)
 refine WQ.freeze (fun hle141 => ?_)
 refine WQ.f5 (WQ.f5 (WQ.f4 (WQ.f4 (WQ.f7 (WQ.f7 (WQ.f7 (WQ.f7 ?_)))))))
 obtain rfl := oi h
 exact Tj ⟨(.slice (some ⟨g29, 0, none⟩) 1 1), hle141, rfl, rfl, hf142⟩
 exact Tz
 exact Tz
 exact Tz
 exact Tz
 exact Tz
 exact Tz
 exact Tz
 exact Tz
 have h := ite_f hb66 h
 refine Tf 35 rfl rfl rfl hb66 rfl (Tf 35 rfl rfl rfl hb66 rfl (Tp (Bv false) rfl (Pf rfl hb66 rfl) rfl (Tp (Bv false) rfl (Mv rfl) rfl (Tf 39 rfl rfl rfl rfl rfl (Tf 39 rfl rfl rfl rfl rfl (Tg 39 rfl rfl rfl rfl rfl ⟨(Sl rfl), ?_⟩ ?_))))))
 refine Tp (Bv false) rfl (Pf rfl rfl rfl) rfl (Tp (Bv false) rfl (Mv rfl) rfl (Tf 44 rfl rfl rfl rfl rfl (Tg 44 rfl rfl rfl rfl rfl ⟨(Sl rfl), ?_⟩ ?_)))
 refine Tp (Bv false) rfl (Pf rfl rfl rfl) rfl (Tp (Bv false) rfl (Mv rfl) rfl (Tf 48 rfl rfl rfl rfl rfl (Tg 48 rfl rfl rfl rfl rfl ⟨(Sl rfl), ?_⟩ ?_)))
 refine Tf 48 rfl rfl rfl rfl rfl (Tp (Bv false) rfl (Pf rfl rfl rfl) rfl (Tp (Bv false) rfl (Mv rfl) rfl (Tf 53 rfl rfl rfl rfl rfl (Tg 53 rfl rfl rfl rfl rfl ⟨(Sl rfl), ?_⟩ ?_))))
 refine Tg 53 rfl rfl rfl rfl rfl ⟨(Sl rfl), ?_⟩ ?_
 refine Tp (Bv false) rfl (Pf rfl rfl rfl) rfl (Tp (Bv false) rfl (Mv rfl) rfl (Tf 58 rfl rfl rfl rfl rfl (Tf 58 rfl rfl rfl rfl rfl (Tg 58 rfl rfl rfl rfl rfl ⟨(Sk 1 rfl (St (Sf 58 rfl rfl rfl rfl rfl) (Sl rfl))), ?_⟩ ?_))))
 refine Tg 58 rfl rfl rfl rfl rfl ⟨(Sl rfl), ?_⟩ ?_
 refine Tp (Bv false) rfl (Pf rfl rfl rfl) rfl (Tp (Bv false) rfl (Mv rfl) rfl (Tf 64 rfl rfl rfl rfl rfl (Tf 64 rfl rfl rfl rfl rfl (Tg 64 rfl rfl rfl rfl rfl ⟨(Sl rfl), ?_⟩ ?_))))
 refine Tf 64 rfl rfl rfl rfl rfl (Tp (Bv false) rfl (Pf rfl rfl rfl) rfl (Tp (Bv false) rfl (Ag rfl) rfl (Ti (WQ.f7 ?_))))
 have h31 := h31.mono (((hle37.trans hle44).trans hle50).trans hle58)
 refine WQ.know (fun _ hs => h31.rs hs) (fun hf144 => ?_)
 refine WQ.freeze (fun hle143 => ?_)
 refine WQ.f5 (WQ.f5 (WQ.f4 (WQ.f4 (WQ.f7 (WQ.f7 (WQ.f7 (WQ.f7 ?_)))))))
 obtain rfl := oi h
 exact Tj ⟨(.slice (some ⟨g29, 0, none⟩) 1 1), hle143, rfl, rfl, hf144⟩
 exact Tz
 exact Tz
 exact Tz
 exact Tz
 exact Tz
 exact Tz
 exact Tz
 exact Tz
 have h := ite_f hb65 h
 refine Tf 30 rfl rfl rfl hb65 rfl (Tf 30 rfl rfl rfl hb65 rfl (Tf 30 rfl rfl rfl hb65 rfl (Tp (Bv false) rfl (Pf rfl hb65 rfl) rfl (Tp (Bv false) rfl (Mv rfl) rfl (Tf 35 rfl rfl rfl rfl rfl (Tf 35 rfl rfl rfl rfl rfl (Tp (Bv false) rfl (Pf rfl rfl rfl) rfl (Tp (Bv false) rfl (Mv rfl) rfl (Tf 39 rfl rfl rfl rfl rfl (Tf 39 rfl rfl rfl rfl rfl (Tg 39 rfl rfl rfl rfl rfl ⟨(Sl rfl), ?_⟩ ?_)))))))))))
 refine Tp (Bv false) rfl (Pf rfl rfl rfl) rfl (Tp (Bv false) rfl (Mv rfl) rfl (Tf 44 rfl rfl rfl rfl rfl (Tg 44 rfl rfl rfl rfl rfl ⟨(Sl rfl), ?_⟩ ?_)))
 refine Tp (Bv false) rfl (Pf rfl rfl rfl) rfl (Tp (Bv false) rfl (Mv rfl) rfl (Tf 48 rfl rfl rfl rfl rfl (Tg 48 rfl rfl rfl rfl rfl ⟨(Sl rfl), ?_⟩ ?_)))
 refine Tf 48 rfl rfl rfl rfl rfl (Tp (Bv false) rfl (Pf rfl rfl rfl) rfl (Tp (Bv false) rfl (Mv rfl) rfl (Tf 53 rfl rfl rfl rfl rfl (Tg 53 rfl rfl rfl rfl rfl ⟨(Sl rfl), ?_⟩ ?_))))
 refine Tg 53 rfl rfl rfl rfl rfl ⟨(Sl rfl), ?_⟩ ?_
 refine Tp (Bv false) rfl (Pf rfl rfl rfl) rfl (Tp (Bv false) rfl (Mv rfl) rfl (Tf 58 rfl rfl rfl rfl rfl (Tf 58 rfl rfl rfl rfl rfl (Tg 58 rfl rfl rfl rfl rfl ⟨(Sk 1 rfl (St (Sf 58 rfl rfl rfl rfl rfl) (Sl rfl))), ?_⟩ ?_))))
 refine Tg 58 rfl rfl rfl rfl rfl ⟨(Sl rfl), ?_⟩ ?_
 refine Tp (Bv false) rfl (Pf rfl rfl rfl) rfl (Tp (Bv false) rfl (Mv rfl) rfl (Tf 64 rfl rfl rfl rfl rfl (Tf 64 rfl rfl rfl rfl rfl (Tg 64 rfl rfl rfl rfl rfl ⟨(Sl rfl), ?_⟩ ?_))))
 refine Tf 64 rfl rfl rfl rfl rfl (Tp (Bv false) rfl (Pf rfl rfl rfl) rfl (Tp (Bv false) rfl (Ag rfl) rfl (Ti (WQ.f7 ?_))))
 have h31 := h31.mono (((hle37.trans hle44).trans hle50).trans hle58)
 refine WQ.know (fun _ hs => h31.rs hs) (fun hf146 => ?_)
 refine WQ.freeze (fun hle145 => ?_)
 refine WQ.f5 (WQ.f5 (WQ.f4 (WQ.f4 (WQ.f7 (WQ.f7 (WQ.f7 (WQ.f7 ?_)))))))
 obtain rfl := oi h
 exact Tj ⟨(.slice (some ⟨g29, 0, none⟩) 1 1), hle145, rfl, rfl, hf146⟩
 exact Tz
 exact Tz
 exact Tz
 exact Tz
 exact Tz
 exact Tz
 exact Tz
 exact Tz
 obtain ⟨x62, x63⟩ := j64
 rintro ρ64 M64 H64 ⟨vx63, hle64, rfl, hs64_0, hx63⟩
 exact Cr (Dr (Dr (Dr (Dr (Dr (Dr (Dr (Dr (Rf h [] rfl (Rs rfl hs64_0) (((((hle27.trans hle37).trans hle44).trans hle50).trans hle58).trans hle64) ⟨rfl, rfl⟩)))))))))

noncomputable def f_ref02_Same_l0 (a0 : (List Int)) (a1 : (List Int)) (s_ : Int) : Option (Int ⊕ (Unit ⊕ Unit)) :=
  match s_ with
  | x24 =>
    (if (decide (x24 < (a0.length : Int))) = true then (grd (0 ≤ x24 ∧ x24 < a0.length) (grd (0 ≤ x24 ∧ x24 < a1.length) (if (decide ((rd a0 x24) ≠ (rd a1 x24))) = true then (some (Sum.inr (Sum.inr ()))) else (some (Sum.inl (IntKind.i64.wrap (x24 + (1 : Int)))))))) else (some (Sum.inr (Sum.inl ()))))
noncomputable def f_ref02_Same (a0 : (List Int)) (a1 : (List Int)) : Option Bool :=
  (if (decide ((a0.length : Int) ≠ (a1.length : Int))) = true then (some false) else ((((iter (f_ref02_Same_l0 a0 a1) (0 : Int)).bind (Sum.elim (fun _ => (some (Sum.inl ()))) (fun _ => (((some false)).bind fun r => some (Sum.inr r))))) : Option (Unit ⊕ Bool)).bind (Sum.elim (fun _ => (some true)) some)))
def f_ref02_Same_post (a0 : (List Int)) (a1 : (List Int)) (v0 v1 : Value) : Bool → Value → IM → HL → Prop :=
  fun (r0 : Bool) (v : Value) (M' : IM) (H' : HL) => (.bool r0) = v ∧ H' = []
theorem f_ref02_Same_ok (a0 : (List Int)) (a1 : (List Int)) (M : IM) (v0 v1 : Value) (h0 : RS (Kd.int .u8) M v0 a0) (h1 : RS (Kd.int .u8) M v1 a1) (res : Bool) (h : f_ref02_Same a0 a1 = some res) :
    Tri Tryz.prog 13 #[v0, v1] M [] (f_ref02_Same_post a0 a1 v0 v1 res) := by
 unfold f_ref02_Same at h
 refine Te Tryz.func13 rfl rfl ?_
 intro F ρ hρ
 refine Sr (Pa (Bv false) rfl rfl (Nt (Cs (Sr (Pm v0 (hρ 0) rfl (Pu (Iv (a0.length : Int)) (PO.lenS Tryz.underlying23 rfl h0.len) rfl (Pm v1 (hρ 1) rfl (Pu (Iv (a1.length : Int)) (PO.lenS Tryz.underlying23 rfl h1.len) rfl (Pu (Bv (decide ((a0.length : Int) ≠ (a1.length : Int)))) (PO.neq rfl rfl) rfl (Nt (Cd (b := decide ((a0.length : Int) ≠ (a1.length : Int))) rfl (fun hb21 => ?_) (fun hb21 => ?_))))))))))))
 have h := ite_t hb21 h
 exact Sr (Pa (Bv false) rfl rfl (Nt (Cr (Tr (Rf h [] rfl (Rs rfl rfl) lr ⟨rfl, rfl⟩)))))
 have h := ite_f hb21 h
 refine Ck (Tc ?_)
 obtain ⟨j22, hj22, h⟩ := bnd h
 refine WC.joinE (fun (_ : Unit) ρ' M' H' => M.le M' ∧ F = H') j22 ?_ ?_
 have h322 := h
 have h := hj22
 refine Sr (Pa (Iv 0) rfl rfl (Nt (Bk ?_)))
 obtain ⟨e23, he23, hK23⟩ := bnd h
 clear h
 refine WC.loop he23 (fun (x24 : Int) ρ' M' H' => M.le M' ∧ F = H' ∧ ρ' 0 = v0 ∧ ρ' 1 = v1 ∧ ρ' 5 = (Iv x24)) ?_ ?_
 exact ⟨lr, rfl, (hρ 0), (hρ 1), rfl⟩
 rintro x24 o23 ρ23 M23 H23 h ⟨hle23, rfl, hs23_0, hs23_1, hs23_5⟩
 unfold f_ref02_Same_l0 at h
 refine Cs (Sr (Pm (Iv x24) hs23_5 rfl (Pm v0 hs23_0 rfl ?_)))
 have h0 := h0.mono hle23
 refine Pu (Iv (a0.length : Int)) (PO.lenS Tryz.underlying23 rfl h0.len) rfl (Pu (Bv (decide (x24 < (a0.length : Int)))) (PO.lss rfl rfl) rfl (Nt (Cd (b := decide (x24 < (a0.length : Int))) rfl (fun hb25 => ?_) (fun hb25 => ?_))))
 have h := ite_t hb25 h
 refine Ck (Tc (Cs (Bk (Cs (WC.draw [0, 0, 3, 7, 0, 0, 48, 112, 255] (.pure 0 (.pure 1 (.pure 2 (.pure 3 (.pure 4 (.pure 5 (.pure 6 (.pure 7 (.pure 8 .done))))))))) mixed (by kernel_rfl) (Tp v0 rfl (Mv hs23_0) rfl (Tp (Iv x24) rfl (Mv hs23_5) rfl ?_)))))))
 obtain ⟨hg26, h⟩ := grd_i h
 obtain ⟨p27, cs28, hat29, hrc30, hhas31⟩ := h0.at hg26.1 hg26.2 (by decide)
 obtain rfl := hrc30
 refine Tp (.pointer (some p27)) rfl (PO.indexAddr (n := a0.length) Tryz.underlying23 sz5 rfl rfl hg26.1 hg26.2 hat29) rfl (Tp (Yv (rd a0 x24)) rfl (PO.loadM pl5 rfl (IM.has0 hhas31)) rfl (Tp v1 rfl (Mv hs23_1) rfl (Tp (Iv x24) rfl (Mv hs23_5) rfl ?_)))
 obtain ⟨hg33, h⟩ := grd_i h
 have h1 := h1.mono hle23
 obtain ⟨p34, cs35, hat36, hrc37, hhas38⟩ := h1.at hg33.1 hg33.2 (by decide)
 obtain rfl := hrc37
 refine Tp (.pointer (some p34)) rfl (PO.indexAddr (n := a1.length) Tryz.underlying23 sz5 rfl rfl hg33.1 hg33.2 hat36) rfl (Tp (Yv (rd a1 x24)) rfl (PO.loadM pl5 rfl (IM.has0 hhas38)) rfl (Tp (Bv (decide ((rd a0 x24) ≠ (rd a1 x24)))) rfl (PO.neq rfl rfl) rfl (Ti (Tc (Cd (b := decide ((rd a0 x24) ≠ (rd a1 x24))) rfl (fun hb40 => ?_) (fun hb40 => ?_))))))
 have h := ite_t hb40 h
 refine Sr (Pa (Bv false) rfl rfl (Nt (Cr (Br (Tr (WQ.leaveR (Sum.inr ()) (oi h).symm (fun heq23 => ?_)))))))
 subst heq23
 have h := (elimR hK23)
 refine Br (Tr ?_)
 have h := KK.early h h322
 exact Rf h [] rfl (Rs rfl rfl) hle23 ⟨rfl, rfl⟩
 have h := ite_f hb40 h
 exact Ck (Bn (Tc (Cg (Pm (Iv x24) hs23_5 rfl (Pu (Iv (IntKind.i64.wrap (x24 + 1))) (PO.add rfl rfl) rfl (Pa (Iv (IntKind.i64.wrap (x24 + 1))) rfl rfl (Wz (WQ.again (IntKind.i64.wrap (x24 + 1)) (oi h).symm ⟨hle23, rfl, hs23_0, hs23_1, rfl⟩))))))))
 have h := ite_f hb25 h
 refine WC.exit (WQ.thenE (WQ.leaveE (Sum.inl ()) (oi h).symm (fun heq23 => ?_)))
 subst heq23
 have h := elimL hK23
 exact WQ.blockH (WQ.thenFE h ⟨hle23, rfl⟩)
 rintro _ ρ22 M22 H22 rfl ⟨hle22, rfl⟩
 have h := (Sum.elim_inl _ _ _).symm.trans h
 exact Sr (Pa (Bv true) rfl rfl (Nt (Cr (Rf h [] rfl (Rs rfl rfl) hle22 ⟨rfl, rfl⟩))))

noncomputable def f_ref02_Ints_l0 (a0 : (List Int)) (a1 : (List Int)) (s_ : Int) : Option (Int ⊕ (Unit ⊕ Unit)) :=
  match s_ with
  | x24 =>
    (if (decide (x24 < (a0.length : Int))) = true then (grd (0 ≤ x24 ∧ x24 < a0.length) (grd (0 ≤ x24 ∧ x24 < a1.length) (if (decide ((rd a0 x24) ≠ (rd a1 x24))) = true then (some (Sum.inr (Sum.inr ()))) else (some (Sum.inl (IntKind.i64.wrap (x24 + (1 : Int)))))))) else (some (Sum.inr (Sum.inl ()))))
noncomputable def f_ref02_Ints (a0 : (List Int)) (a1 : (List Int)) : Option Bool :=
  (if (decide ((a0.length : Int) ≠ (a1.length : Int))) = true then (some false) else ((((iter (f_ref02_Ints_l0 a0 a1) (0 : Int)).bind (Sum.elim (fun _ => (some (Sum.inl ()))) (fun _ => (((some false)).bind fun r => some (Sum.inr r))))) : Option (Unit ⊕ Bool)).bind (Sum.elim (fun _ => (some true)) some)))
def f_ref02_Ints_post (a0 : (List Int)) (a1 : (List Int)) (v0 v1 : Value) : Bool → Value → IM → HL → Prop :=
  fun (r0 : Bool) (v : Value) (M' : IM) (H' : HL) => (.bool r0) = v ∧ H' = []
theorem f_ref02_Ints_ok (a0 : (List Int)) (a1 : (List Int)) (M : IM) (v0 v1 : Value) (h0 : RS (Kd.int .i64) M v0 a0) (h1 : RS (Kd.int .i64) M v1 a1) (res : Bool) (h : f_ref02_Ints a0 a1 = some res) :
    Tri Tryz.prog 133 #[v0, v1] M [] (f_ref02_Ints_post a0 a1 v0 v1 res) := by
 unfold f_ref02_Ints at h
 refine Te Tryz.func133 rfl rfl ?_
 intro F ρ hρ
 refine Sr (Pa (Bv false) rfl rfl (Nt (Cs (Sr (Pm v0 (hρ 0) rfl (Pu (Iv (a0.length : Int)) (PO.lenS Tryz.underlying56 rfl h0.len) rfl (Pm v1 (hρ 1) rfl (Pu (Iv (a1.length : Int)) (PO.lenS Tryz.underlying56 rfl h1.len) rfl (Pu (Bv (decide ((a0.length : Int) ≠ (a1.length : Int)))) (PO.neq rfl rfl) rfl (Nt (Cd (b := decide ((a0.length : Int) ≠ (a1.length : Int))) rfl (fun hb21 => ?_) (fun hb21 => ?_))))))))))))
 have h := ite_t hb21 h
 exact Sr (Pa (Bv false) rfl rfl (Nt (Cr (Tr (Rf h [] rfl (Rs rfl rfl) lr ⟨rfl, rfl⟩)))))
 have h := ite_f hb21 h
 refine Ck (Tc ?_)
 obtain ⟨j22, hj22, h⟩ := bnd h
 refine WC.joinE (fun (_ : Unit) ρ' M' H' => M.le M' ∧ F = H') j22 ?_ ?_
 have h322 := h
 have h := hj22
 refine Sr (Pa (Iv 0) rfl rfl (Nt (Bk ?_)))
 obtain ⟨e23, he23, hK23⟩ := bnd h
 clear h
 refine WC.loop he23 (fun (x24 : Int) ρ' M' H' => M.le M' ∧ F = H' ∧ ρ' 0 = v0 ∧ ρ' 1 = v1 ∧ ρ' 5 = (Iv x24)) ?_ ?_
 exact ⟨lr, rfl, (hρ 0), (hρ 1), rfl⟩
 rintro x24 o23 ρ23 M23 H23 h ⟨hle23, rfl, hs23_0, hs23_1, hs23_5⟩
 unfold f_ref02_Ints_l0 at h
 refine Cs (Sr (Pm (Iv x24) hs23_5 rfl (Pm v0 hs23_0 rfl ?_)))
 have h0 := h0.mono hle23
 refine Pu (Iv (a0.length : Int)) (PO.lenS Tryz.underlying56 rfl h0.len) rfl (Pu (Bv (decide (x24 < (a0.length : Int)))) (PO.lss rfl rfl) rfl (Nt (Cd (b := decide (x24 < (a0.length : Int))) rfl (fun hb25 => ?_) (fun hb25 => ?_))))
 have h := ite_t hb25 h
 refine Ck (Tc (Cs (Bk (Cs (WC.draw [0, 0, 3, 7, 0, 0, 48, 112, 255] (.pure 0 (.pure 1 (.pure 2 (.pure 3 (.pure 4 (.pure 5 (.pure 6 (.pure 7 (.pure 8 .done))))))))) mixed (by kernel_rfl) (Tp v0 rfl (Mv hs23_0) rfl (Tp (Iv x24) rfl (Mv hs23_5) rfl ?_)))))))
 obtain ⟨hg26, h⟩ := grd_i h
 obtain ⟨p27, cs28, hat29, hrc30, hhas31⟩ := h0.at hg26.1 hg26.2 (by decide)
 obtain rfl := hrc30
 refine Tp (.pointer (some p27)) rfl (PO.indexAddr (n := a0.length) Tryz.underlying56 sz3 rfl rfl hg26.1 hg26.2 hat29) rfl (Tp (Iv (rd a0 x24)) rfl (PO.loadM pl3 rfl (IM.has0 hhas31)) rfl (Tp v1 rfl (Mv hs23_1) rfl (Tp (Iv x24) rfl (Mv hs23_5) rfl ?_)))
 obtain ⟨hg33, h⟩ := grd_i h
 have h1 := h1.mono hle23
 obtain ⟨p34, cs35, hat36, hrc37, hhas38⟩ := h1.at hg33.1 hg33.2 (by decide)
 obtain rfl := hrc37
 refine Tp (.pointer (some p34)) rfl (PO.indexAddr (n := a1.length) Tryz.underlying56 sz3 rfl rfl hg33.1 hg33.2 hat36) rfl (Tp (Iv (rd a1 x24)) rfl (PO.loadM pl3 rfl (IM.has0 hhas38)) rfl (Tp (Bv (decide ((rd a0 x24) ≠ (rd a1 x24)))) rfl (PO.neq rfl rfl) rfl (Ti (Tc (Cd (b := decide ((rd a0 x24) ≠ (rd a1 x24))) rfl (fun hb40 => ?_) (fun hb40 => ?_))))))
 have h := ite_t hb40 h
 refine Sr (Pa (Bv false) rfl rfl (Nt (Cr (Br (Tr (WQ.leaveR (Sum.inr ()) (oi h).symm (fun heq23 => ?_)))))))
 subst heq23
 have h := (elimR hK23)
 refine Br (Tr ?_)
 have h := KK.early h h322
 exact Rf h [] rfl (Rs rfl rfl) hle23 ⟨rfl, rfl⟩
 have h := ite_f hb40 h
 exact Ck (Bn (Tc (Cg (Pm (Iv x24) hs23_5 rfl (Pu (Iv (IntKind.i64.wrap (x24 + 1))) (PO.add rfl rfl) rfl (Pa (Iv (IntKind.i64.wrap (x24 + 1))) rfl rfl (Wz (WQ.again (IntKind.i64.wrap (x24 + 1)) (oi h).symm ⟨hle23, rfl, hs23_0, hs23_1, rfl⟩))))))))
 have h := ite_f hb25 h
 refine WC.exit (WQ.thenE (WQ.leaveE (Sum.inl ()) (oi h).symm (fun heq23 => ?_)))
 subst heq23
 have h := elimL hK23
 exact WQ.blockH (WQ.thenFE h ⟨hle23, rfl⟩)
 rintro _ ρ22 M22 H22 rfl ⟨hle22, rfl⟩
 have h := (Sum.elim_inl _ _ _).symm.trans h
 exact Sr (Pa (Bv true) rfl rfl (Nt (Cr (Rf h [] rfl (Rs rfl rfl) hle22 ⟨rfl, rfl⟩))))


end Go.Proofs.YtkflneabcannnaaGreatDoor.G
