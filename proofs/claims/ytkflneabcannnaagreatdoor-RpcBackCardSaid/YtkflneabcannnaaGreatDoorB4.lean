/- Go functions: what they come to, and that they do. Printed by a program of the session (gen). -/
import Derived.Test.YtkflneabcannnaaGreatDoorBF
import Derived.Test.YtkflneabcannnaaGreatDoorB3
import Derived.Test.YtkflneabcannnaaGreatDoorKConv
import Derived.Test.YtkflneabcannnaaGreatDoorKShar2
import Derived.Test.YtkflneabcannnaaGreatDoorKTight
set_option linter.unusedVariables false
set_option linter.unusedSimpArgs false
set_option maxHeartbeats 8000000
set_option maxRecDepth 100000
namespace Go.Proofs.YtkflneabcannnaaGreatDoor.G
open Go Go.KK

noncomputable def f_wire_Num (a0 : (List Int)) (a1 : Int) : Option (List Int) :=
  (if (decide ((if (4611686018427387903 : Int) < a1 then (4611686018427387903 : Int) else a1) < (64 : Int))) = true then (grd (a0.length + [IntKind.u8.wrap (if (4611686018427387903 : Int) < a1 then (4611686018427387903 : Int) else a1)].length ≤ 274877906944) (some (a0 ++ [IntKind.u8.wrap (if (4611686018427387903 : Int) < a1 then (4611686018427387903 : Int) else a1)]))) else (if (decide ((if (4611686018427387903 : Int) < a1 then (4611686018427387903 : Int) else a1) < (16384 : Int))) = true then (grd (a0.length + [orI .u8 (64 : Int) (IntKind.u8.wrap (shrI .u64 (if (4611686018427387903 : Int) < a1 then (4611686018427387903 : Int) else a1) (8 : Int))), IntKind.u8.wrap (if (4611686018427387903 : Int) < a1 then (4611686018427387903 : Int) else a1)].length ≤ 274877906944) (some (a0 ++ [orI .u8 (64 : Int) (IntKind.u8.wrap (shrI .u64 (if (4611686018427387903 : Int) < a1 then (4611686018427387903 : Int) else a1) (8 : Int))), IntKind.u8.wrap (if (4611686018427387903 : Int) < a1 then (4611686018427387903 : Int) else a1)]))) else (if (decide ((if (4611686018427387903 : Int) < a1 then (4611686018427387903 : Int) else a1) < (1073741824 : Int))) = true then (grd (a0.length + [orI .u8 (128 : Int) (IntKind.u8.wrap (shrI .u64 (if (4611686018427387903 : Int) < a1 then (4611686018427387903 : Int) else a1) (24 : Int))), IntKind.u8.wrap (shrI .u64 (if (4611686018427387903 : Int) < a1 then (4611686018427387903 : Int) else a1) (16 : Int)), IntKind.u8.wrap (shrI .u64 (if (4611686018427387903 : Int) < a1 then (4611686018427387903 : Int) else a1) (8 : Int)), IntKind.u8.wrap (if (4611686018427387903 : Int) < a1 then (4611686018427387903 : Int) else a1)].length ≤ 274877906944) (some (a0 ++ [orI .u8 (128 : Int) (IntKind.u8.wrap (shrI .u64 (if (4611686018427387903 : Int) < a1 then (4611686018427387903 : Int) else a1) (24 : Int))), IntKind.u8.wrap (shrI .u64 (if (4611686018427387903 : Int) < a1 then (4611686018427387903 : Int) else a1) (16 : Int)), IntKind.u8.wrap (shrI .u64 (if (4611686018427387903 : Int) < a1 then (4611686018427387903 : Int) else a1) (8 : Int)), IntKind.u8.wrap (if (4611686018427387903 : Int) < a1 then (4611686018427387903 : Int) else a1)]))) else (grd (a0.length + [orI .u8 (192 : Int) (IntKind.u8.wrap (shrI .u64 (if (4611686018427387903 : Int) < a1 then (4611686018427387903 : Int) else a1) (56 : Int))), IntKind.u8.wrap (shrI .u64 (if (4611686018427387903 : Int) < a1 then (4611686018427387903 : Int) else a1) (48 : Int)), IntKind.u8.wrap (shrI .u64 (if (4611686018427387903 : Int) < a1 then (4611686018427387903 : Int) else a1) (40 : Int)), IntKind.u8.wrap (shrI .u64 (if (4611686018427387903 : Int) < a1 then (4611686018427387903 : Int) else a1) (32 : Int)), IntKind.u8.wrap (shrI .u64 (if (4611686018427387903 : Int) < a1 then (4611686018427387903 : Int) else a1) (24 : Int)), IntKind.u8.wrap (shrI .u64 (if (4611686018427387903 : Int) < a1 then (4611686018427387903 : Int) else a1) (16 : Int)), IntKind.u8.wrap (shrI .u64 (if (4611686018427387903 : Int) < a1 then (4611686018427387903 : Int) else a1) (8 : Int)), IntKind.u8.wrap (if (4611686018427387903 : Int) < a1 then (4611686018427387903 : Int) else a1)].length ≤ 274877906944) (some (a0 ++ [orI .u8 (192 : Int) (IntKind.u8.wrap (shrI .u64 (if (4611686018427387903 : Int) < a1 then (4611686018427387903 : Int) else a1) (56 : Int))), IntKind.u8.wrap (shrI .u64 (if (4611686018427387903 : Int) < a1 then (4611686018427387903 : Int) else a1) (48 : Int)), IntKind.u8.wrap (shrI .u64 (if (4611686018427387903 : Int) < a1 then (4611686018427387903 : Int) else a1) (40 : Int)), IntKind.u8.wrap (shrI .u64 (if (4611686018427387903 : Int) < a1 then (4611686018427387903 : Int) else a1) (32 : Int)), IntKind.u8.wrap (shrI .u64 (if (4611686018427387903 : Int) < a1 then (4611686018427387903 : Int) else a1) (24 : Int)), IntKind.u8.wrap (shrI .u64 (if (4611686018427387903 : Int) < a1 then (4611686018427387903 : Int) else a1) (16 : Int)), IntKind.u8.wrap (shrI .u64 (if (4611686018427387903 : Int) < a1 then (4611686018427387903 : Int) else a1) (8 : Int)), IntKind.u8.wrap (if (4611686018427387903 : Int) < a1 then (4611686018427387903 : Int) else a1)]))))))
def f_wire_Num_post (a0 : (List Int)) (a1 : Int) (v0 : Value) : (List Int) → Value → IM → HL → Prop :=
  fun (r0 : (List Int)) (v : Value) (M' : IM) (H' : HL) => ∃ vz0 cz0, vz0 = v ∧ H' = [cz0] ∧ OwnS (Kd.int .u8) M' vz0 r0 cz0
theorem f_wire_Num_ok (a0 : (List Int)) (a1 : Int) (M : IM) (v0 : Value) (c0 : Chunk) (h0 : OwnS (Kd.int .u8) M v0 a0 c0) (res : (List Int)) (h : f_wire_Num a0 a1 = some res) :
    Tri Tryz.prog 66 #[v0, (Uv a1)] M [c0] (f_wire_Num_post a0 a1 v0 res) := by
 unfold f_wire_Num at h
 refine Te Tryz.func66 rfl rfl ?_
 intro F ρ hρ
 refine Sr (Pa Zs rfl rfl (Ns (Pm (Uv a1) (hρ 1) rfl (Pu (Uv (if (4611686018427387903 : Int) < a1 then (4611686018427387903 : Int) else a1)) (PO.min rfl rfl) rfl (Pa (Uv (if (4611686018427387903 : Int) < a1 then (4611686018427387903 : Int) else a1)) rfl rfl (Nt (Cs (Bk (Sr (Pm (Uv (if (4611686018427387903 : Int) < a1 then (4611686018427387903 : Int) else a1)) rfl rfl (Pu (Bv (decide ((if (4611686018427387903 : Int) < a1 then (4611686018427387903 : Int) else a1) < 64))) (PO.lss rfl rfl) rfl ?_)))))))))))
 refine Pa (Bv (decide ((if (4611686018427387903 : Int) < a1 then (4611686018427387903 : Int) else a1) < 64))) rfl rfl (Nt (Cd (b := decide ((if (4611686018427387903 : Int) < a1 then (4611686018427387903 : Int) else a1) < 64)) rfl (fun hb21 => ?_) (fun hb21 => ?_)))
 have h := ite_t hb21 h
 refine Sr (Pm v0 (hρ 0) rfl (Pm (Uv (if (4611686018427387903 : Int) < a1 then (4611686018427387903 : Int) else a1)) rfl rfl (Pu (Yv (IntKind.u8.wrap (if (4611686018427387903 : Int) < a1 then (4611686018427387903 : Int) else a1))) (PO.conv us105 Tryz.underlying5 rfl) rfl (We (EO.buildSliceL (cl := [(Yv (IntKind.u8.wrap (if (4611686018427387903 : Int) < a1 then (4611686018427387903 : Int) else a1)))]) Tryz.underlying23 iz5 rfl (Pc (Yv (IntKind.u8.wrap (if (4611686018427387903 : Int) < a1 then (4611686018427387903 : Int) else a1))) rfl rfl Pz) rfl) rfl ?_))))
 rintro _ _ _ - ⟨rfl, g22, rfl, rfl⟩
 have h24 : OwnS (Kd.int .u8) M (.slice (some ⟨g22, 0, none⟩) 1 1) [IntKind.u8.wrap (if (4611686018427387903 : Int) < a1 then (4611686018427387903 : Int) else a1)] [(g22, .cells #[(Yv (IntKind.u8.wrap (if (4611686018427387903 : Int) < a1 then (4611686018427387903 : Int) else a1)))] 5 (0, 0))] := OwnS.rows (css := [[(Yv (IntKind.u8.wrap (if (4611686018427387903 : Int) < a1 then (4611686018427387903 : Int) else a1)))]]) (Rows.cons rfl Rows.nil) rfl rfl
 obtain ⟨hg28, h⟩ := grd_i h
 refine WL.f1 (We (EO.append (dd := (Kd.int .u8)) (xs := a0) (ys := [IntKind.u8.wrap (if (4611686018427387903 : Int) < a1 then (4611686018427387903 : Int) else a1)]) Tryz.underlying23 Tryz.underlying23 in5 rfl (appB (by decide) hg28) (by decide) rfl rfl h0 (h24.src 1 rfl)) rfl ?_)
 rintro v27 _ _ - ⟨rfl, c25, rfl, h26⟩
 exact Pa v27 rfl rfl (Nt (Cr (Br (Tr (Qa (Dr (Rf h [c25] rfl (Rs rfl rfl) lr ⟨v27, c25, rfl, rfl, h26⟩)))))))
 have h := ite_f hb21 h
 refine Sr (Pm (Uv (if (4611686018427387903 : Int) < a1 then (4611686018427387903 : Int) else a1)) rfl rfl (Pu (Bv (decide ((if (4611686018427387903 : Int) < a1 then (4611686018427387903 : Int) else a1) < 16384))) (PO.lss rfl rfl) rfl (Pa (Bv (decide ((if (4611686018427387903 : Int) < a1 then (4611686018427387903 : Int) else a1) < 16384))) rfl rfl (Nt (Cd (b := decide ((if (4611686018427387903 : Int) < a1 then (4611686018427387903 : Int) else a1) < 16384)) rfl (fun hb29 => ?_) (fun hb29 => ?_))))))
 have h := ite_t hb29 h
 refine Sr (Pm v0 (hρ 0) rfl (Pm (Uv (if (4611686018427387903 : Int) < a1 then (4611686018427387903 : Int) else a1)) rfl rfl (Pu (Uv (shrI .u64 (if (4611686018427387903 : Int) < a1 then (4611686018427387903 : Int) else a1) (8 : Int))) (PO.shr rfl rfl (by decide)) rfl (Pu (Yv (IntKind.u8.wrap (shrI .u64 (if (4611686018427387903 : Int) < a1 then (4611686018427387903 : Int) else a1) (8 : Int)))) (PO.conv us105 Tryz.underlying5 rfl) rfl (Pu (Yv (orI .u8 64 (IntKind.u8.wrap (shrI .u64 (if (4611686018427387903 : Int) < a1 then (4611686018427387903 : Int) else a1) (8 : Int))))) (PO.or rfl rfl) rfl (Pm (Uv (if (4611686018427387903 : Int) < a1 then (4611686018427387903 : Int) else a1)) rfl rfl (Pu (Yv (IntKind.u8.wrap (if (4611686018427387903 : Int) < a1 then (4611686018427387903 : Int) else a1))) (PO.conv us105 Tryz.underlying5 rfl) rfl (We (EO.buildSliceL (cl := [(Yv (orI .u8 64 (IntKind.u8.wrap (shrI .u64 (if (4611686018427387903 : Int) < a1 then (4611686018427387903 : Int) else a1) (8 : Int))))), (Yv (IntKind.u8.wrap (if (4611686018427387903 : Int) < a1 then (4611686018427387903 : Int) else a1)))]) Tryz.underlying23 iz5 rfl (Pc (Yv (orI .u8 64 (IntKind.u8.wrap (shrI .u64 (if (4611686018427387903 : Int) < a1 then (4611686018427387903 : Int) else a1) (8 : Int))))) rfl rfl (Pc (Yv (IntKind.u8.wrap (if (4611686018427387903 : Int) < a1 then (4611686018427387903 : Int) else a1))) rfl rfl Pz)) rfl) rfl ?_))))))))
 rintro _ _ _ - ⟨rfl, g30, rfl, rfl⟩
 have h32 : OwnS (Kd.int .u8) M (.slice (some ⟨g30, 0, none⟩) 2 2) [orI .u8 64 (IntKind.u8.wrap (shrI .u64 (if (4611686018427387903 : Int) < a1 then (4611686018427387903 : Int) else a1) (8 : Int))), IntKind.u8.wrap (if (4611686018427387903 : Int) < a1 then (4611686018427387903 : Int) else a1)] [(g30, .cells #[(Yv (orI .u8 64 (IntKind.u8.wrap (shrI .u64 (if (4611686018427387903 : Int) < a1 then (4611686018427387903 : Int) else a1) (8 : Int))))), (Yv (IntKind.u8.wrap (if (4611686018427387903 : Int) < a1 then (4611686018427387903 : Int) else a1)))] 5 (0, 0))] := OwnS.rows (css := [[(Yv (orI .u8 64 (IntKind.u8.wrap (shrI .u64 (if (4611686018427387903 : Int) < a1 then (4611686018427387903 : Int) else a1) (8 : Int)))))], [(Yv (IntKind.u8.wrap (if (4611686018427387903 : Int) < a1 then (4611686018427387903 : Int) else a1)))]]) (Rows.cons rfl (Rows.cons rfl Rows.nil)) rfl rfl
 obtain ⟨hg36, h⟩ := grd_i h
 refine WL.f1 (We (EO.append (dd := (Kd.int .u8)) (xs := a0) (ys := [orI .u8 64 (IntKind.u8.wrap (shrI .u64 (if (4611686018427387903 : Int) < a1 then (4611686018427387903 : Int) else a1) (8 : Int))), IntKind.u8.wrap (if (4611686018427387903 : Int) < a1 then (4611686018427387903 : Int) else a1)]) Tryz.underlying23 Tryz.underlying23 in5 rfl (appB (by decide) hg36) (by decide) rfl rfl h0 (h32.src 1 rfl)) rfl ?_)
 rintro v35 _ _ - ⟨rfl, c33, rfl, h34⟩
 exact Pa v35 rfl rfl (Nt (Cr (Br (Tr (Qa (Dr (Rf h [c33] rfl (Rs rfl rfl) lr ⟨v35, c33, rfl, rfl, h34⟩)))))))
 have h := ite_f hb29 h
 refine Sr (Pm (Uv (if (4611686018427387903 : Int) < a1 then (4611686018427387903 : Int) else a1)) rfl rfl (Pu (Bv (decide ((if (4611686018427387903 : Int) < a1 then (4611686018427387903 : Int) else a1) < 1073741824))) (PO.lss rfl rfl) rfl (Pa (Bv (decide ((if (4611686018427387903 : Int) < a1 then (4611686018427387903 : Int) else a1) < 1073741824))) rfl rfl (Nt (Cd (b := decide ((if (4611686018427387903 : Int) < a1 then (4611686018427387903 : Int) else a1) < 1073741824)) rfl (fun hb37 => ?_) (fun hb37 => ?_))))))
 have h := ite_t hb37 h
 refine Sr (Pm v0 (hρ 0) rfl (Pm (Uv (if (4611686018427387903 : Int) < a1 then (4611686018427387903 : Int) else a1)) rfl rfl (Pu (Uv (shrI .u64 (if (4611686018427387903 : Int) < a1 then (4611686018427387903 : Int) else a1) (24 : Int))) (PO.shr rfl rfl (by decide)) rfl (Pu (Yv (IntKind.u8.wrap (shrI .u64 (if (4611686018427387903 : Int) < a1 then (4611686018427387903 : Int) else a1) (24 : Int)))) (PO.conv us105 Tryz.underlying5 rfl) rfl (Pu (Yv (orI .u8 128 (IntKind.u8.wrap (shrI .u64 (if (4611686018427387903 : Int) < a1 then (4611686018427387903 : Int) else a1) (24 : Int))))) (PO.or rfl rfl) rfl (Pm (Uv (if (4611686018427387903 : Int) < a1 then (4611686018427387903 : Int) else a1)) rfl rfl (Pu (Uv (shrI .u64 (if (4611686018427387903 : Int) < a1 then (4611686018427387903 : Int) else a1) (16 : Int))) (PO.shr rfl rfl (by decide)) rfl (Pu (Yv (IntKind.u8.wrap (shrI .u64 (if (4611686018427387903 : Int) < a1 then (4611686018427387903 : Int) else a1) (16 : Int)))) (PO.conv us105 Tryz.underlying5 rfl) rfl (Pm (Uv (if (4611686018427387903 : Int) < a1 then (4611686018427387903 : Int) else a1)) rfl rfl (Pu (Uv (shrI .u64 (if (4611686018427387903 : Int) < a1 then (4611686018427387903 : Int) else a1) (8 : Int))) (PO.shr rfl rfl (by decide)) rfl (Pu (Yv (IntKind.u8.wrap (shrI .u64 (if (4611686018427387903 : Int) < a1 then (4611686018427387903 : Int) else a1) (8 : Int)))) (PO.conv us105 Tryz.underlying5 rfl) rfl ?_)))))))))))
 refine Pm (Uv (if (4611686018427387903 : Int) < a1 then (4611686018427387903 : Int) else a1)) rfl rfl (Pu (Yv (IntKind.u8.wrap (if (4611686018427387903 : Int) < a1 then (4611686018427387903 : Int) else a1))) (PO.conv us105 Tryz.underlying5 rfl) rfl (We (EO.buildSliceL (cl := [(Yv (orI .u8 128 (IntKind.u8.wrap (shrI .u64 (if (4611686018427387903 : Int) < a1 then (4611686018427387903 : Int) else a1) (24 : Int))))), (Yv (IntKind.u8.wrap (shrI .u64 (if (4611686018427387903 : Int) < a1 then (4611686018427387903 : Int) else a1) (16 : Int)))), (Yv (IntKind.u8.wrap (shrI .u64 (if (4611686018427387903 : Int) < a1 then (4611686018427387903 : Int) else a1) (8 : Int)))), (Yv (IntKind.u8.wrap (if (4611686018427387903 : Int) < a1 then (4611686018427387903 : Int) else a1)))]) Tryz.underlying23 iz5 rfl (Pc (Yv (orI .u8 128 (IntKind.u8.wrap (shrI .u64 (if (4611686018427387903 : Int) < a1 then (4611686018427387903 : Int) else a1) (24 : Int))))) rfl rfl (Pc (Yv (IntKind.u8.wrap (shrI .u64 (if (4611686018427387903 : Int) < a1 then (4611686018427387903 : Int) else a1) (16 : Int)))) rfl rfl (Pc (Yv (IntKind.u8.wrap (shrI .u64 (if (4611686018427387903 : Int) < a1 then (4611686018427387903 : Int) else a1) (8 : Int)))) rfl rfl (Pc (Yv (IntKind.u8.wrap (if (4611686018427387903 : Int) < a1 then (4611686018427387903 : Int) else a1))) rfl rfl Pz)))) rfl) rfl ?_))
 rintro _ _ _ - ⟨rfl, g38, rfl, rfl⟩
 have h40 : OwnS (Kd.int .u8) M (.slice (some ⟨g38, 0, none⟩) 4 4) [orI .u8 128 (IntKind.u8.wrap (shrI .u64 (if (4611686018427387903 : Int) < a1 then (4611686018427387903 : Int) else a1) (24 : Int))), IntKind.u8.wrap (shrI .u64 (if (4611686018427387903 : Int) < a1 then (4611686018427387903 : Int) else a1) (16 : Int)), IntKind.u8.wrap (shrI .u64 (if (4611686018427387903 : Int) < a1 then (4611686018427387903 : Int) else a1) (8 : Int)), IntKind.u8.wrap (if (4611686018427387903 : Int) < a1 then (4611686018427387903 : Int) else a1)] [(g38, .cells #[(Yv (orI .u8 128 (IntKind.u8.wrap (shrI .u64 (if (4611686018427387903 : Int) < a1 then (4611686018427387903 : Int) else a1) (24 : Int))))), (Yv (IntKind.u8.wrap (shrI .u64 (if (4611686018427387903 : Int) < a1 then (4611686018427387903 : Int) else a1) (16 : Int)))), (Yv (IntKind.u8.wrap (shrI .u64 (if (4611686018427387903 : Int) < a1 then (4611686018427387903 : Int) else a1) (8 : Int)))), (Yv (IntKind.u8.wrap (if (4611686018427387903 : Int) < a1 then (4611686018427387903 : Int) else a1)))] 5 (0, 0))] := OwnS.rows (css := [[(Yv (orI .u8 128 (IntKind.u8.wrap (shrI .u64 (if (4611686018427387903 : Int) < a1 then (4611686018427387903 : Int) else a1) (24 : Int)))))], [(Yv (IntKind.u8.wrap (shrI .u64 (if (4611686018427387903 : Int) < a1 then (4611686018427387903 : Int) else a1) (16 : Int))))], [(Yv (IntKind.u8.wrap (shrI .u64 (if (4611686018427387903 : Int) < a1 then (4611686018427387903 : Int) else a1) (8 : Int))))], [(Yv (IntKind.u8.wrap (if (4611686018427387903 : Int) < a1 then (4611686018427387903 : Int) else a1)))]]) (Rows.cons rfl (Rows.cons rfl (Rows.cons rfl (Rows.cons rfl Rows.nil)))) rfl rfl
 obtain ⟨hg44, h⟩ := grd_i h
 refine WL.f1 (We (EO.append (dd := (Kd.int .u8)) (xs := a0) (ys := [orI .u8 128 (IntKind.u8.wrap (shrI .u64 (if (4611686018427387903 : Int) < a1 then (4611686018427387903 : Int) else a1) (24 : Int))), IntKind.u8.wrap (shrI .u64 (if (4611686018427387903 : Int) < a1 then (4611686018427387903 : Int) else a1) (16 : Int)), IntKind.u8.wrap (shrI .u64 (if (4611686018427387903 : Int) < a1 then (4611686018427387903 : Int) else a1) (8 : Int)), IntKind.u8.wrap (if (4611686018427387903 : Int) < a1 then (4611686018427387903 : Int) else a1)]) Tryz.underlying23 Tryz.underlying23 in5 rfl (appB (by decide) hg44) (by decide) rfl rfl h0 (h40.src 1 rfl)) rfl ?_)
 rintro v43 _ _ - ⟨rfl, c41, rfl, h42⟩
 exact Pa v43 rfl rfl (Nt (Cr (Br (Tr (Qa (Dr (Rf h [c41] rfl (Rs rfl rfl) lr ⟨v43, c41, rfl, rfl, h42⟩)))))))
 have h := ite_f hb37 h
 refine Ck (Bn (Tc (Sr (Pm v0 (hρ 0) rfl (Pm (Uv (if (4611686018427387903 : Int) < a1 then (4611686018427387903 : Int) else a1)) rfl rfl (Pu (Uv (shrI .u64 (if (4611686018427387903 : Int) < a1 then (4611686018427387903 : Int) else a1) (56 : Int))) (PO.shr rfl rfl (by decide)) rfl (Pu (Yv (IntKind.u8.wrap (shrI .u64 (if (4611686018427387903 : Int) < a1 then (4611686018427387903 : Int) else a1) (56 : Int)))) (PO.conv us105 Tryz.underlying5 rfl) rfl (Pu (Yv (orI .u8 192 (IntKind.u8.wrap (shrI .u64 (if (4611686018427387903 : Int) < a1 then (4611686018427387903 : Int) else a1) (56 : Int))))) (PO.or rfl rfl) rfl (Pm (Uv (if (4611686018427387903 : Int) < a1 then (4611686018427387903 : Int) else a1)) rfl rfl (Pu (Uv (shrI .u64 (if (4611686018427387903 : Int) < a1 then (4611686018427387903 : Int) else a1) (48 : Int))) (PO.shr rfl rfl (by decide)) rfl (Pu (Yv (IntKind.u8.wrap (shrI .u64 (if (4611686018427387903 : Int) < a1 then (4611686018427387903 : Int) else a1) (48 : Int)))) (PO.conv us105 Tryz.underlying5 rfl) rfl ?_)))))))))))
 refine Pm (Uv (if (4611686018427387903 : Int) < a1 then (4611686018427387903 : Int) else a1)) rfl rfl (Pu (Uv (shrI .u64 (if (4611686018427387903 : Int) < a1 then (4611686018427387903 : Int) else a1) (40 : Int))) (PO.shr rfl rfl (by decide)) rfl (Pu (Yv (IntKind.u8.wrap (shrI .u64 (if (4611686018427387903 : Int) < a1 then (4611686018427387903 : Int) else a1) (40 : Int)))) (PO.conv us105 Tryz.underlying5 rfl) rfl (Pm (Uv (if (4611686018427387903 : Int) < a1 then (4611686018427387903 : Int) else a1)) rfl rfl (Pu (Uv (shrI .u64 (if (4611686018427387903 : Int) < a1 then (4611686018427387903 : Int) else a1) (32 : Int))) (PO.shr rfl rfl (by decide)) rfl (Pu (Yv (IntKind.u8.wrap (shrI .u64 (if (4611686018427387903 : Int) < a1 then (4611686018427387903 : Int) else a1) (32 : Int)))) (PO.conv us105 Tryz.underlying5 rfl) rfl (Pm (Uv (if (4611686018427387903 : Int) < a1 then (4611686018427387903 : Int) else a1)) rfl rfl (Pu (Uv (shrI .u64 (if (4611686018427387903 : Int) < a1 then (4611686018427387903 : Int) else a1) (24 : Int))) (PO.shr rfl rfl (by decide)) rfl (Pu (Yv (IntKind.u8.wrap (shrI .u64 (if (4611686018427387903 : Int) < a1 then (4611686018427387903 : Int) else a1) (24 : Int)))) (PO.conv us105 Tryz.underlying5 rfl) rfl (Pm (Uv (if (4611686018427387903 : Int) < a1 then (4611686018427387903 : Int) else a1)) rfl rfl (Pu (Uv (shrI .u64 (if (4611686018427387903 : Int) < a1 then (4611686018427387903 : Int) else a1) (16 : Int))) (PO.shr rfl rfl (by decide)) rfl (Pu (Yv (IntKind.u8.wrap (shrI .u64 (if (4611686018427387903 : Int) < a1 then (4611686018427387903 : Int) else a1) (16 : Int)))) (PO.conv us105 Tryz.underlying5 rfl) rfl ?_)))))))))))
 refine Pm (Uv (if (4611686018427387903 : Int) < a1 then (4611686018427387903 : Int) else a1)) rfl rfl (Pu (Uv (shrI .u64 (if (4611686018427387903 : Int) < a1 then (4611686018427387903 : Int) else a1) (8 : Int))) (PO.shr rfl rfl (by decide)) rfl (Pu (Yv (IntKind.u8.wrap (shrI .u64 (if (4611686018427387903 : Int) < a1 then (4611686018427387903 : Int) else a1) (8 : Int)))) (PO.conv us105 Tryz.underlying5 rfl) rfl (Pm (Uv (if (4611686018427387903 : Int) < a1 then (4611686018427387903 : Int) else a1)) rfl rfl (Pu (Yv (IntKind.u8.wrap (if (4611686018427387903 : Int) < a1 then (4611686018427387903 : Int) else a1))) (PO.conv us105 Tryz.underlying5 rfl) rfl (We (EO.buildSliceL (cl := [(Yv (orI .u8 192 (IntKind.u8.wrap (shrI .u64 (if (4611686018427387903 : Int) < a1 then (4611686018427387903 : Int) else a1) (56 : Int))))), (Yv (IntKind.u8.wrap (shrI .u64 (if (4611686018427387903 : Int) < a1 then (4611686018427387903 : Int) else a1) (48 : Int)))), (Yv (IntKind.u8.wrap (shrI .u64 (if (4611686018427387903 : Int) < a1 then (4611686018427387903 : Int) else a1) (40 : Int)))), (Yv (IntKind.u8.wrap (shrI .u64 (if (4611686018427387903 : Int) < a1 then (4611686018427387903 : Int) else a1) (32 : Int)))), (Yv (IntKind.u8.wrap (shrI .u64 (if (4611686018427387903 : Int) < a1 then (4611686018427387903 : Int) else a1) (24 : Int)))), (Yv (IntKind.u8.wrap (shrI .u64 (if (4611686018427387903 : Int) < a1 then (4611686018427387903 : Int) else a1) (16 : Int)))), (Yv (IntKind.u8.wrap (shrI .u64 (if (4611686018427387903 : Int) < a1 then (4611686018427387903 : Int) else a1) (8 : Int)))), (Yv (IntKind.u8.wrap (if (4611686018427387903 : Int) < a1 then (4611686018427387903 : Int) else a1)))]) Tryz.underlying23 iz5 rfl (Pc (Yv (orI .u8 192 (IntKind.u8.wrap (shrI .u64 (if (4611686018427387903 : Int) < a1 then (4611686018427387903 : Int) else a1) (56 : Int))))) rfl rfl (Pc (Yv (IntKind.u8.wrap (shrI .u64 (if (4611686018427387903 : Int) < a1 then (4611686018427387903 : Int) else a1) (48 : Int)))) rfl rfl (Pc (Yv (IntKind.u8.wrap (shrI .u64 (if (4611686018427387903 : Int) < a1 then (4611686018427387903 : Int) else a1) (40 : Int)))) rfl rfl (Pc (Yv (IntKind.u8.wrap (shrI .u64 (if (4611686018427387903 : Int) < a1 then (4611686018427387903 : Int) else a1) (32 : Int)))) rfl rfl (Pc (Yv (IntKind.u8.wrap (shrI .u64 (if (4611686018427387903 : Int) < a1 then (4611686018427387903 : Int) else a1) (24 : Int)))) rfl rfl (Pc (Yv (IntKind.u8.wrap (shrI .u64 (if (4611686018427387903 : Int) < a1 then (4611686018427387903 : Int) else a1) (16 : Int)))) rfl rfl (Pc (Yv (IntKind.u8.wrap (shrI .u64 (if (4611686018427387903 : Int) < a1 then (4611686018427387903 : Int) else a1) (8 : Int)))) rfl rfl (Pc (Yv (IntKind.u8.wrap (if (4611686018427387903 : Int) < a1 then (4611686018427387903 : Int) else a1))) rfl rfl Pz)))))))) rfl) rfl ?_)))))
 rintro _ _ _ - ⟨rfl, g45, rfl, rfl⟩
 have h47 : OwnS (Kd.int .u8) M (.slice (some ⟨g45, 0, none⟩) 8 8) [orI .u8 192 (IntKind.u8.wrap (shrI .u64 (if (4611686018427387903 : Int) < a1 then (4611686018427387903 : Int) else a1) (56 : Int))), IntKind.u8.wrap (shrI .u64 (if (4611686018427387903 : Int) < a1 then (4611686018427387903 : Int) else a1) (48 : Int)), IntKind.u8.wrap (shrI .u64 (if (4611686018427387903 : Int) < a1 then (4611686018427387903 : Int) else a1) (40 : Int)), IntKind.u8.wrap (shrI .u64 (if (4611686018427387903 : Int) < a1 then (4611686018427387903 : Int) else a1) (32 : Int)), IntKind.u8.wrap (shrI .u64 (if (4611686018427387903 : Int) < a1 then (4611686018427387903 : Int) else a1) (24 : Int)), IntKind.u8.wrap (shrI .u64 (if (4611686018427387903 : Int) < a1 then (4611686018427387903 : Int) else a1) (16 : Int)), IntKind.u8.wrap (shrI .u64 (if (4611686018427387903 : Int) < a1 then (4611686018427387903 : Int) else a1) (8 : Int)), IntKind.u8.wrap (if (4611686018427387903 : Int) < a1 then (4611686018427387903 : Int) else a1)] [(g45, .cells #[(Yv (orI .u8 192 (IntKind.u8.wrap (shrI .u64 (if (4611686018427387903 : Int) < a1 then (4611686018427387903 : Int) else a1) (56 : Int))))), (Yv (IntKind.u8.wrap (shrI .u64 (if (4611686018427387903 : Int) < a1 then (4611686018427387903 : Int) else a1) (48 : Int)))), (Yv (IntKind.u8.wrap (shrI .u64 (if (4611686018427387903 : Int) < a1 then (4611686018427387903 : Int) else a1) (40 : Int)))), (Yv (IntKind.u8.wrap (shrI .u64 (if (4611686018427387903 : Int) < a1 then (4611686018427387903 : Int) else a1) (32 : Int)))), (Yv (IntKind.u8.wrap (shrI .u64 (if (4611686018427387903 : Int) < a1 then (4611686018427387903 : Int) else a1) (24 : Int)))), (Yv (IntKind.u8.wrap (shrI .u64 (if (4611686018427387903 : Int) < a1 then (4611686018427387903 : Int) else a1) (16 : Int)))), (Yv (IntKind.u8.wrap (shrI .u64 (if (4611686018427387903 : Int) < a1 then (4611686018427387903 : Int) else a1) (8 : Int)))), (Yv (IntKind.u8.wrap (if (4611686018427387903 : Int) < a1 then (4611686018427387903 : Int) else a1)))] 5 (0, 0))] := OwnS.rows (css := [[(Yv (orI .u8 192 (IntKind.u8.wrap (shrI .u64 (if (4611686018427387903 : Int) < a1 then (4611686018427387903 : Int) else a1) (56 : Int)))))], [(Yv (IntKind.u8.wrap (shrI .u64 (if (4611686018427387903 : Int) < a1 then (4611686018427387903 : Int) else a1) (48 : Int))))], [(Yv (IntKind.u8.wrap (shrI .u64 (if (4611686018427387903 : Int) < a1 then (4611686018427387903 : Int) else a1) (40 : Int))))], [(Yv (IntKind.u8.wrap (shrI .u64 (if (4611686018427387903 : Int) < a1 then (4611686018427387903 : Int) else a1) (32 : Int))))], [(Yv (IntKind.u8.wrap (shrI .u64 (if (4611686018427387903 : Int) < a1 then (4611686018427387903 : Int) else a1) (24 : Int))))], [(Yv (IntKind.u8.wrap (shrI .u64 (if (4611686018427387903 : Int) < a1 then (4611686018427387903 : Int) else a1) (16 : Int))))], [(Yv (IntKind.u8.wrap (shrI .u64 (if (4611686018427387903 : Int) < a1 then (4611686018427387903 : Int) else a1) (8 : Int))))], [(Yv (IntKind.u8.wrap (if (4611686018427387903 : Int) < a1 then (4611686018427387903 : Int) else a1)))]]) (Rows.cons rfl (Rows.cons rfl (Rows.cons rfl (Rows.cons rfl (Rows.cons rfl (Rows.cons rfl (Rows.cons rfl (Rows.cons rfl Rows.nil)))))))) rfl rfl
 obtain ⟨hg51, h⟩ := grd_i h
 refine WL.f1 (We (EO.append (dd := (Kd.int .u8)) (xs := a0) (ys := [orI .u8 192 (IntKind.u8.wrap (shrI .u64 (if (4611686018427387903 : Int) < a1 then (4611686018427387903 : Int) else a1) (56 : Int))), IntKind.u8.wrap (shrI .u64 (if (4611686018427387903 : Int) < a1 then (4611686018427387903 : Int) else a1) (48 : Int)), IntKind.u8.wrap (shrI .u64 (if (4611686018427387903 : Int) < a1 then (4611686018427387903 : Int) else a1) (40 : Int)), IntKind.u8.wrap (shrI .u64 (if (4611686018427387903 : Int) < a1 then (4611686018427387903 : Int) else a1) (32 : Int)), IntKind.u8.wrap (shrI .u64 (if (4611686018427387903 : Int) < a1 then (4611686018427387903 : Int) else a1) (24 : Int)), IntKind.u8.wrap (shrI .u64 (if (4611686018427387903 : Int) < a1 then (4611686018427387903 : Int) else a1) (16 : Int)), IntKind.u8.wrap (shrI .u64 (if (4611686018427387903 : Int) < a1 then (4611686018427387903 : Int) else a1) (8 : Int)), IntKind.u8.wrap (if (4611686018427387903 : Int) < a1 then (4611686018427387903 : Int) else a1)]) Tryz.underlying23 Tryz.underlying23 in5 rfl (appB (by decide) hg51) (by decide) rfl rfl h0 (h47.src 1 rfl)) rfl ?_)
 rintro v50 _ _ - ⟨rfl, c48, rfl, h49⟩
 exact Pa v50 rfl rfl (Nt (Cr (Qa (Dr (Rf h [c48] rfl (Rs rfl rfl) lr ⟨v50, c48, rfl, rfl, h49⟩)))))

noncomputable def f_wire_Int (a0 : (List Int)) (a1 : Int) : Option (List Int) :=
  ((f_wire_Num a0 (IntKind.u64.wrap (if a1 < (0 : Int) then (0 : Int) else a1))).bind fun (r21 : (List Int)) => (some r21))
def f_wire_Int_post (a0 : (List Int)) (a1 : Int) (v0 : Value) : (List Int) → Value → IM → HL → Prop :=
  fun (r0 : (List Int)) (v : Value) (M' : IM) (H' : HL) => ∃ vz0 cz0, vz0 = v ∧ H' = [cz0] ∧ OwnS (Kd.int .u8) M' vz0 r0 cz0
theorem f_wire_Int_ok (a0 : (List Int)) (a1 : Int) (M : IM) (v0 : Value) (c0 : Chunk) (h0 : OwnS (Kd.int .u8) M v0 a0 c0) (res : (List Int)) (h : f_wire_Int a0 a1 = some res) :
    Tri Tryz.prog 24 #[v0, (Iv a1)] M [c0] (f_wire_Int_post a0 a1 v0 res) := by
 unfold f_wire_Int at h
 refine Te Tryz.func24 rfl rfl ?_
 intro F ρ hρ
 refine Sr (Pa Zs rfl rfl (Ns (Pm v0 (hρ 0) rfl (Pm (Iv a1) (hρ 1) rfl (Pu (Iv (if a1 < 0 then (0 : Int) else a1)) (PO.max rfl rfl) rfl (Pu (Uv (IntKind.u64.wrap (if a1 < 0 then (0 : Int) else a1))) (PO.conv us3 Tryz.underlying105 rfl) rfl ?_))))))
 obtain ⟨r21, hr22, h⟩ := bnd h
 refine We (Cb co66 (f_wire_Num_ok a0 (IntKind.u64.wrap (if a1 < 0 then (0 : Int) else a1)) _ _ _ h0 r21 hr22) (args2 rfl rfl)) rfl ?_
 rintro _ M23 _ hle24 ⟨_, ⟨vq25, cq25, rfl, rfl, hq25⟩, rfl⟩
 exact WL.a1 (Pa vq25 rfl rfl (Nt (Cr (Rf h [cq25] rfl (Rs rfl rfl) hle24 ⟨vq25, cq25, rfl, rfl, hq25⟩))))

noncomputable def f_wire_Flag (a0 : (List Int)) (a1 : Bool) : Option (List Int) :=
  (if a1 = true then (grd (a0.length + [(1 : Int)].length ≤ 274877906944) (some (a0 ++ [(1 : Int)]))) else (grd (a0.length + [(0 : Int)].length ≤ 274877906944) (some (a0 ++ [(0 : Int)]))))
def f_wire_Flag_post (a0 : (List Int)) (a1 : Bool) (v0 : Value) : (List Int) → Value → IM → HL → Prop :=
  fun (r0 : (List Int)) (v : Value) (M' : IM) (H' : HL) => ∃ vz0 cz0, vz0 = v ∧ H' = [cz0] ∧ OwnS (Kd.int .u8) M' vz0 r0 cz0
theorem f_wire_Flag_ok (a0 : (List Int)) (a1 : Bool) (M : IM) (v0 : Value) (c0 : Chunk) (h0 : OwnS (Kd.int .u8) M v0 a0 c0) (res : (List Int)) (h : f_wire_Flag a0 a1 = some res) :
    Tri Tryz.prog 26 #[v0, (Bv a1)] M [c0] (f_wire_Flag_post a0 a1 v0 res) := by
 unfold f_wire_Flag at h
 refine Te Tryz.func26 rfl rfl ?_
 intro F ρ hρ
 refine Sr (Pa Zs rfl rfl (Nt (Cs (Sr (Pm (Bv a1) (hρ 1) rfl (Nt (Cd (b := a1) rfl (fun hb21 => ?_) (fun hb21 => ?_))))))))
 have h := ite_t hb21 h
 refine Sr (Pm v0 (hρ 0) rfl (We (EO.buildSliceL (cl := [(Yv 1)]) Tryz.underlying23 iz5 rfl (Pc (Yv 1) rfl rfl Pz) rfl) rfl ?_))
 rintro _ _ _ - ⟨rfl, g22, rfl, rfl⟩
 have h24 : OwnS (Kd.int .u8) M (.slice (some ⟨g22, 0, none⟩) 1 1) [(1 : Int)] [(g22, .cells #[(Yv 1)] 5 (0, 0))] := OwnS.rows (css := [[(Yv 1)]]) (Rows.cons rfl Rows.nil) rfl rfl
 obtain ⟨hg28, h⟩ := grd_i h
 refine WL.f1 (We (EO.append (dd := (Kd.int .u8)) (xs := a0) (ys := [(1 : Int)]) Tryz.underlying23 Tryz.underlying23 in5 rfl (appB (by decide) hg28) (by decide) rfl rfl h0 (h24.src 1 rfl)) rfl ?_)
 rintro v27 _ _ - ⟨rfl, c25, rfl, h26⟩
 exact Pa v27 rfl rfl (Nt (Cr (Tr (Qa (Dr (Rf h [c25] rfl (Rs rfl rfl) lr ⟨v27, c25, rfl, rfl, h26⟩))))))
 have h := ite_f hb21 h
 refine Ck (Tc (Sr (Pm v0 (hρ 0) rfl (We (EO.buildSliceL (cl := [(Yv 0)]) Tryz.underlying23 iz5 rfl (Pc (Yv 0) rfl rfl Pz) rfl) rfl ?_))))
 rintro _ _ _ - ⟨rfl, g29, rfl, rfl⟩
 have h31 : OwnS (Kd.int .u8) M (.slice (some ⟨g29, 0, none⟩) 1 1) [(0 : Int)] [(g29, .cells #[(Yv 0)] 5 (0, 0))] := OwnS.rows (css := [[(Yv 0)]]) (Rows.cons rfl Rows.nil) rfl rfl
 obtain ⟨hg35, h⟩ := grd_i h
 refine WL.f1 (We (EO.append (dd := (Kd.int .u8)) (xs := a0) (ys := [(0 : Int)]) Tryz.underlying23 Tryz.underlying23 in5 rfl (appB (by decide) hg35) (by decide) rfl rfl h0 (h31.src 1 rfl)) rfl ?_)
 rintro v34 _ _ - ⟨rfl, c32, rfl, h33⟩
 exact Pa v34 rfl rfl (Nt (Cr (Qa (Dr (Rf h [c32] rfl (Rs rfl rfl) lr ⟨v34, c32, rfl, rfl, h33⟩)))))

noncomputable def f_rpc_Put_1 (a0 : Int) (a1 : Int) (a2 : Int) (a3 : (List Int)) : Option (List Int) :=
  (if (decide ((andI .i64 a2 a0) ≠ (0 : Int))) = true then ((f_wire_Int a3 a1).bind fun (r22 : (List Int)) => (some r22)) else (some a3))
def f_rpc_Put_1_post (a0 : Int) (a1 : Int) (a2 : Int) (a3 : (List Int)) (v3 : Value) (g2 g3 : Nat) : (List Int) → Value → IM → HL → Prop :=
  fun (r0 : (List Int)) (v : Value) (M' : IM) (H' : HL) => ∃ w0 d1, (.tuple #[]) = v ∧ H' = [[(g2, .cells #[(.int .i64 a2)] 3 (0, 0))], [(g3, .cells #[w0] 23 (0, 0))], d1] ∧ OwnS (Kd.int .u8) M' w0 r0 d1
theorem f_rpc_Put_1_ok (a0 : Int) (a1 : Int) (a2 : Int) (a3 : (List Int)) (M : IM) (v3 : Value) (g2 g3 : Nat) (c3 : Chunk) (h3 : OwnS (Kd.int .u8) M v3 a3 c3) (res : (List Int)) (h : f_rpc_Put_1 a0 a1 a2 a3 = some res) :
    Tri Tryz.prog 25 #[(Iv a0), (Iv a1), (pt g2 0), (pt g3 0)] M [[(g2, .cells #[(Iv a2)] 3 (0, 0))], [(g3, .cells #[v3] 23 (0, 0))], c3] (f_rpc_Put_1_post a0 a1 a2 a3 v3 g2 g3 res) := by
 unfold f_rpc_Put_1 at h
 refine Te Tryz.func25 rfl rfl ?_
 intro F ρ hρ
 refine Sr (Pu (Iv a2) (Lb 0 pl3 (hρ 2) rfl rfl) rfl (Pm (Iv a0) (hρ 0) rfl (Pu (Iv (andI .i64 a2 a0)) (PO.and rfl rfl) rfl (Pu (Bv (decide ((andI .i64 a2 a0) ≠ 0))) (PO.neq rfl rfl) rfl (Nt (Cd (b := decide ((andI .i64 a2 a0) ≠ 0)) rfl (fun hb21 => ?_) (fun hb21 => ?_)))))))
 have h := ite_t hb21 h
 refine Cg (Pu v3 (Lb 1 pl23 (hρ 3) rfl rfl) rfl (Pm (Iv a1) (hρ 1) rfl ?_))
 obtain ⟨r22, hr23, h⟩ := bnd h
 refine Wb (We (Cb co24 (f_wire_Int_ok a3 a1 _ _ _ h3 r22 hr23) (args2 rfl rfl)) rfl ?_)
 rintro _ M24 _ hle25 ⟨_, ⟨vq26, cq26, rfl, rfl, hq26⟩, rfl⟩
 refine WL.a1 (Wb (We (Es vq26 [vq26] hq26.cells sz23 (hρ 3) rfl (Ow hq26) rfl rfl rfl) rfl ?_))
 rintro _ _ _ - ⟨rfl, rfl⟩
 exact Wz (Qa (Qa (Qb (WQ.endsF h [[(g2, .cells #[(Iv a2)] 3 (0, 0))], [(g3, .cells #[vq26] 23 (0, 0))], cq26] rfl (results0 rfl) hle25 ⟨vq26, cq26, rfl, rfl, hq26⟩))))
 have h := ite_f hb21 h
 exact Ck (WQ.endsF h [[(g2, .cells #[(Iv a2)] 3 (0, 0))], [(g3, .cells #[v3] 23 (0, 0))], c3] rfl (results0 rfl) lr ⟨v3, c3, rfl, rfl, h3⟩)

noncomputable def f_wire_Text (a0 : (List Int)) (a1 : (List Int)) : Option (List Int) :=
  ((f_wire_Int a0 (a1.length : Int)).bind fun (r21 : (List Int)) => (grd (r21.length + a1.length ≤ 274877906944) (some (r21 ++ a1))))
def f_wire_Text_post (a0 : (List Int)) (a1 : (List Int)) (v0 v1 : Value) : (List Int) → Value → IM → HL → Prop :=
  fun (r0 : (List Int)) (v : Value) (M' : IM) (H' : HL) => ∃ vz0 cz0, vz0 = v ∧ H' = [cz0] ∧ OwnS (Kd.int .u8) M' vz0 r0 cz0
theorem f_wire_Text_ok (a0 : (List Int)) (a1 : (List Int)) (M : IM) (v0 v1 : Value) (c0 : Chunk) (h0 : OwnS (Kd.int .u8) M v0 a0 c0) (h1 : RS (Kd.int .u8) M v1 a1) (res : (List Int)) (h : f_wire_Text a0 a1 = some res) :
    Tri Tryz.prog 27 #[v0, v1] M [c0] (f_wire_Text_post a0 a1 v0 v1 res) := by
 unfold f_wire_Text at h
 refine Te Tryz.func27 rfl rfl ?_
 intro F ρ hρ
 refine Sr (Pa Zs rfl rfl (Ns (Pm v0 (hρ 0) rfl (Pm v1 (hρ 1) rfl (Pu (Iv (a1.length : Int)) (PO.lenS Tryz.underlying23 rfl h1.len) rfl ?_)))))
 obtain ⟨r21, hr22, h⟩ := bnd h
 refine We (Cb co24 (f_wire_Int_ok a0 (a1.length : Int) _ _ _ h0 r21 hr22) (args2 rfl rfl)) rfl ?_
 rintro _ M23 _ hle24 ⟨_, ⟨vq25, cq25, rfl, rfl, hq25⟩, rfl⟩
 refine WL.a1 (Pm v1 (hρ 1) rfl ?_)
 obtain ⟨hg29, h⟩ := grd_i h
 have h1 := h1.mono hle24
 refine We (EO.append (dd := (Kd.int .u8)) (xs := r21) (ys := a1) Tryz.underlying23 Tryz.underlying23 in5 rfl (appB (by decide) hg29) (by decide) rfl rfl hq25 (h1.src _)) rfl ?_
 rintro v28 _ _ - ⟨rfl, c26, rfl, h27⟩
 exact Pa v28 rfl rfl (Nt (Cr (Rf h [c26] rfl (Rs rfl rfl) hle24 ⟨v28, c26, rfl, rfl, h27⟩)))

noncomputable def f_record_Put_1 (a0 : Int) (a1 : Int) (a2 : Int) (a3 : (List Int)) : Option (List Int) :=
  (if (decide ((andI .i64 a2 a0) ≠ (0 : Int))) = true then ((f_wire_Int a3 a1).bind fun (r22 : (List Int)) => (some r22)) else (some a3))
def f_record_Put_1_post (a0 : Int) (a1 : Int) (a2 : Int) (a3 : (List Int)) (v3 : Value) (g2 g3 : Nat) : (List Int) → Value → IM → HL → Prop :=
  fun (r0 : (List Int)) (v : Value) (M' : IM) (H' : HL) => ∃ w0 d1, (.tuple #[]) = v ∧ H' = [[(g2, .cells #[(.int .i64 a2)] 3 (0, 0))], [(g3, .cells #[w0] 23 (0, 0))], d1] ∧ OwnS (Kd.int .u8) M' w0 r0 d1
theorem f_record_Put_1_ok (a0 : Int) (a1 : Int) (a2 : Int) (a3 : (List Int)) (M : IM) (v3 : Value) (g2 g3 : Nat) (c3 : Chunk) (h3 : OwnS (Kd.int .u8) M v3 a3 c3) (res : (List Int)) (h : f_record_Put_1 a0 a1 a2 a3 = some res) :
    Tri Tryz.prog 94 #[(Iv a0), (Iv a1), (pt g2 0), (pt g3 0)] M [[(g2, .cells #[(Iv a2)] 3 (0, 0))], [(g3, .cells #[v3] 23 (0, 0))], c3] (f_record_Put_1_post a0 a1 a2 a3 v3 g2 g3 res) := by
 unfold f_record_Put_1 at h
 refine Te Tryz.func94 rfl rfl ?_
 intro F ρ hρ
 refine Sr (Pu (Iv a2) (Lb 0 pl3 (hρ 2) rfl rfl) rfl (Pm (Iv a0) (hρ 0) rfl (Pu (Iv (andI .i64 a2 a0)) (PO.and rfl rfl) rfl (Pu (Bv (decide ((andI .i64 a2 a0) ≠ 0))) (PO.neq rfl rfl) rfl (Nt (Cd (b := decide ((andI .i64 a2 a0) ≠ 0)) rfl (fun hb21 => ?_) (fun hb21 => ?_)))))))
 have h := ite_t hb21 h
 refine Cg (Pu v3 (Lb 1 pl23 (hρ 3) rfl rfl) rfl (Pm (Iv a1) (hρ 1) rfl ?_))
 obtain ⟨r22, hr23, h⟩ := bnd h
 refine Wb (We (Cb co24 (f_wire_Int_ok a3 a1 _ _ _ h3 r22 hr23) (args2 rfl rfl)) rfl ?_)
 rintro _ M24 _ hle25 ⟨_, ⟨vq26, cq26, rfl, rfl, hq26⟩, rfl⟩
 refine WL.a1 (Wb (We (Es vq26 [vq26] hq26.cells sz23 (hρ 3) rfl (Ow hq26) rfl rfl rfl) rfl ?_))
 rintro _ _ _ - ⟨rfl, rfl⟩
 exact Wz (Qa (Qa (Qb (WQ.endsF h [[(g2, .cells #[(Iv a2)] 3 (0, 0))], [(g3, .cells #[vq26] 23 (0, 0))], cq26] rfl (results0 rfl) hle25 ⟨vq26, cq26, rfl, rfl, hq26⟩))))
 have h := ite_f hb21 h
 exact Ck (WQ.endsF h [[(g2, .cells #[(Iv a2)] 3 (0, 0))], [(g3, .cells #[v3] 23 (0, 0))], c3] rfl (results0 rfl) lr ⟨v3, c3, rfl, rfl, h3⟩)

noncomputable def f_record_Put_2 (a0 : Int) (a1 : ByteArray) (a2 : Int) (a3 : (List Int)) : Option (List Int) :=
  (if (decide ((andI .i64 a2 a0) ≠ (0 : Int))) = true then ((f_wire_Text a3 (bytesOf a1)).bind fun (r25 : (List Int)) => (some r25)) else (some a3))
def f_record_Put_2_post (a0 : Int) (a1 : ByteArray) (a2 : Int) (a3 : (List Int)) (v3 : Value) (g2 g3 : Nat) : (List Int) → Value → IM → HL → Prop :=
  fun (r0 : (List Int)) (v : Value) (M' : IM) (H' : HL) => ∃ w0 d1, (.tuple #[]) = v ∧ H' = [[(g2, .cells #[(.int .i64 a2)] 3 (0, 0))], [(g3, .cells #[w0] 23 (0, 0))], d1] ∧ OwnS (Kd.int .u8) M' w0 r0 d1
theorem f_record_Put_2_ok (a0 : Int) (a1 : ByteArray) (a2 : Int) (a3 : (List Int)) (M : IM) (v3 : Value) (g2 g3 : Nat) (c3 : Chunk) (h3 : OwnS (Kd.int .u8) M v3 a3 c3) (res : (List Int)) (h : f_record_Put_2 a0 a1 a2 a3 = some res) :
    Tri Tryz.prog 95 #[(Iv a0), (Sv a1), (pt g2 0), (pt g3 0)] M [[(g2, .cells #[(Iv a2)] 3 (0, 0))], [(g3, .cells #[v3] 23 (0, 0))], c3] (f_record_Put_2_post a0 a1 a2 a3 v3 g2 g3 res) := by
 unfold f_record_Put_2 at h
 refine Te Tryz.func95 rfl rfl ?_
 intro F ρ hρ
 refine Sr (Pu (Iv a2) (Lb 0 pl3 (hρ 2) rfl rfl) rfl (Pm (Iv a0) (hρ 0) rfl (Pu (Iv (andI .i64 a2 a0)) (PO.and rfl rfl) rfl (Pu (Bv (decide ((andI .i64 a2 a0) ≠ 0))) (PO.neq rfl rfl) rfl (Nt (Cd (b := decide ((andI .i64 a2 a0) ≠ 0)) rfl (fun hb21 => ?_) (fun hb21 => ?_)))))))
 have h := ite_t hb21 h
 refine Cg (Pu v3 (Lb 1 pl23 (hρ 3) rfl rfl) rfl (Pm (Sv a1) (hρ 1) rfl (We (EO.s2b Tryz.underlying9 Tryz.underlying23 Tryz.underlying5 rfl) rfl ?_)))
 rintro v24 _ _ - ⟨rfl, c22, rfl, h23⟩
 obtain ⟨r25, hr26, h⟩ := bnd h
 refine WL.f3 (WL.f1 (We (EO.call2 co27 (Tri.lend h23.excl fun w0_ H0_ hs0_ => (f_wire_Text_ok a3 (bytesOf a1) _ _ _ _ (h3.mono (IM.le_add _ _)) (h23.rs hs0_) r25 hr26)) (args2 rfl rfl)) rfl ?_))
 rintro _ _ _ hle28 ⟨_, ⟨Ml30, Hl31, hll32, rfl, rfl, ⟨vq29, cq29, rfl, rfl, hq29⟩⟩, rfl⟩
 have hq29 : OwnS (Kd.int .u8) (Ml30.minus c22) vq29 r25 cq29 := hq29.any (Kd.int_flat _)
 refine WL.a2 (WL.f3 (We (Es vq29 [vq29] hq29.cells sz23 (hρ 3) rfl (Ow hq29) rfl rfl rfl) rfl ?_))
 rintro _ _ _ - ⟨rfl, rfl⟩
 exact Wz (Qa (Dr (Qa (Qa (Qb (WQ.endsF h [[(g2, .cells #[(Iv a2)] 3 (0, 0))], [(g3, .cells #[vq29] 23 (0, 0))], cq29] rfl (results0 rfl) hle28 ⟨vq29, cq29, rfl, rfl, hq29⟩))))))
 have h := ite_f hb21 h
 exact Ck (WQ.endsF h [[(g2, .cells #[(Iv a2)] 3 (0, 0))], [(g3, .cells #[v3] 23 (0, 0))], c3] rfl (results0 rfl) lr ⟨v3, c3, rfl, rfl, h3⟩)

noncomputable def f_wire_Row_l0 (a1 : (List Int)) (s_ : ((List Int) × Int)) : Option (((List Int) × Int) ⊕ (List Int)) :=
  match s_ with
  | (x29, x30) =>
    (if (decide (x30 < (a1.length : Int))) = true then (grd (0 ≤ x30 ∧ x30 < a1.length) ((f_wire_Int x29 (rd a1 x30)).bind fun (r40 : (List Int)) => (some (Sum.inl (r40, IntKind.i64.wrap (x30 + (1 : Int))))))) else (some (Sum.inr x29)))
noncomputable def f_wire_Row (a0 : (List Int)) (a1 : (List Int)) : Option (List Int) :=
  ((f_wire_Int a0 (a1.length : Int)).bind fun (r21 : (List Int)) => ((((iter (f_wire_Row_l0 a1) (r21, (0 : Int))).bind (fun (x31 : (List Int)) => (some x31))) : Option (List Int)).bind fun (x26 : (List Int)) => (some x26)))
def f_wire_Row_post (a0 : (List Int)) (a1 : (List Int)) (v0 v1 : Value) : (List Int) → Value → IM → HL → Prop :=
  fun (r0 : (List Int)) (v : Value) (M' : IM) (H' : HL) => ∃ vz0 cz0, vz0 = v ∧ H' = [cz0] ∧ OwnS (Kd.int .u8) M' vz0 r0 cz0
theorem f_wire_Row_ok (a0 : (List Int)) (a1 : (List Int)) (M : IM) (v0 v1 : Value) (c0 : Chunk) (h0 : OwnS (Kd.int .u8) M v0 a0 c0) (h1 : RS (Kd.int .i64) M v1 a1) (res : (List Int)) (h : f_wire_Row a0 a1 = some res) :
    Tri Tryz.prog 97 #[v0, v1] M [c0] (f_wire_Row_post a0 a1 v0 v1 res) := by
 unfold f_wire_Row at h
 refine Te Tryz.func97 rfl rfl ?_
 intro F ρ hρ
 refine Sr (Pa Zs rfl rfl (Ns (Pm v0 (hρ 0) rfl (Pm v1 (hρ 1) rfl (Pu (Iv (a1.length : Int)) (PO.lenS Tryz.underlying56 rfl h1.len) rfl ?_)))))
 obtain ⟨r21, hr22, h⟩ := bnd h
 refine We (Cb co24 (f_wire_Int_ok a0 (a1.length : Int) _ _ _ h0 r21 hr22) (args2 rfl rfl)) rfl ?_
 rintro _ M23 _ hle24 ⟨_, ⟨vq25, cq25, rfl, rfl, hq25⟩, rfl⟩
 refine WL.a1 (Pa vq25 rfl rfl (Nt ?_))
 obtain ⟨x26, hj27, h⟩ := bnd h
 refine Jf (fun (x26 : (List Int)) ρ' M' H' => ∃ vx26 cx26, M23.le M' ∧ cx26 :: F = H' ∧ ρ' 0 = vx26 ∧ OwnS (Kd.int .u8) M' vx26 x26 cx26) x26 ?_ ?_
 have h327 := h
 have h := hj27
 refine Sr (Pm v1 (hρ 1) rfl ?_)
 have h1 := h1.mono hle24
 refine Pu (Iv (a1.length : Int)) (PO.lenS Tryz.underlying56 rfl h1.len) rfl (Pm (Iv 0) rfl rfl (Nt (Bk ?_)))
 obtain ⟨e28, he28, hK28⟩ := bnd h
 clear h
 refine WC.loop he28 (fun (p_ : ((List Int) × Int)) ρ' M' H' => match p_ with | (x29, x30) => ∃ vx29 cx29, M23.le M' ∧ cx29 :: F = H' ∧ ρ' 0 = vx29 ∧ ρ' 11 = v1 ∧ ρ' 12 = (Iv (a1.length : Int)) ∧ ρ' 13 = (Iv x30) ∧ OwnS (Kd.int .u8) M' vx29 x29 cx29) ?_ ?_
 exact ⟨vq25, cq25, lr, rfl, rfl, rfl, rfl, rfl, hq25⟩
 rintro ⟨x29, x30⟩ o28 ρ28 M28 H28 h ⟨vx29, cx29, hle28, rfl, hs28_0, hs28_11, hs28_12, hs28_13, hx29⟩
 unfold f_wire_Row_l0 at h
 refine Sr (Pu (Bv (decide (x30 < (a1.length : Int)))) (PO.lss hs28_13 hs28_12) rfl (Nt (Cs (Cd (b := decide (x30 < (a1.length : Int))) rfl (fun hb32 => ?_) (fun hb32 => ?_)))))
 have h := ite_t hb32 h
 refine Ck (Tc (Cs (Bk (Sr ?_))))
 obtain ⟨hg33, h⟩ := grd_i h
 have h1 := h1.mono hle28
 obtain ⟨p34, cs35, hat36, hrc37, hhas38⟩ := h1.at hg33.1 hg33.2 (by decide)
 obtain rfl := hrc37
 refine Pu (.pointer (some p34)) (PO.indexAddr (n := a1.length) Tryz.underlying56 sz3 hs28_11 hs28_13 hg33.1 hg33.2 hat36) rfl (Pu (Iv (rd a1 x30)) (PO.loadM pl3 rfl (IM.has0 hhas38)) rfl (Pa (Iv (rd a1 x30)) rfl rfl (Nt (Cg (Pm vx29 hs28_0 rfl (Pm (Iv (rd a1 x30)) rfl rfl ?_))))))
 obtain ⟨r40, hr41, h⟩ := bnd h
 refine We (Cb co24 (f_wire_Int_ok x29 (rd a1 x30) _ _ _ hx29 r40 hr41) (args2 rfl rfl)) rfl ?_
 rintro _ M42 _ hle43 ⟨_, ⟨vq44, cq44, rfl, rfl, hq44⟩, rfl⟩
 exact WL.a1 (Pa vq44 rfl rfl (Wz (Bn (Tc (Cg (Pu (Iv (IntKind.i64.wrap (x30 + 1))) (PO.add hs28_13 rfl) rfl (Pm (Iv (IntKind.i64.wrap (x30 + 1))) rfl rfl (Wz (WQ.again (r40, IntKind.i64.wrap (x30 + 1)) (oi h).symm ⟨vq44, cq44, (hle28.trans hle43), rfl, rfl, hs28_11, hs28_12, rfl, hq44⟩)))))))))
 have h := ite_f hb32 h
 refine WC.exit (WQ.thenE (WQ.leaveE x29 (oi h).symm (fun heq28 => ?_)))
 subst heq28
 have h := hK28
 refine WQ.blockH ?_
 obtain rfl := oi h
 exact Tj ⟨vx29, cx29, hle28, rfl, hs28_0, hx29⟩
 rintro ρ27 M27 H27 ⟨vx26, cx26, hle27, rfl, hs27_0, hx26⟩
 exact Sr (Pm vx26 hs27_0 rfl (Pa vx26 rfl rfl (Nt (Cr (Rf h [cx26] rfl (Rs rfl rfl) (hle24.trans hle27) ⟨vx26, cx26, rfl, rfl, hx26⟩)))))

noncomputable def f_record_Put_3 (a0 : Int) (a1 : (List Int)) (a2 : Int) (a3 : (List Int)) : Option (List Int) :=
  (if (decide ((andI .i64 a2 a0) ≠ (0 : Int))) = true then ((f_wire_Row a3 a1).bind fun (r22 : (List Int)) => (some r22)) else (some a3))
def f_record_Put_3_post (a0 : Int) (a1 : (List Int)) (a2 : Int) (a3 : (List Int)) (v1 v3 : Value) (g2 g3 : Nat) : (List Int) → Value → IM → HL → Prop :=
  fun (r0 : (List Int)) (v : Value) (M' : IM) (H' : HL) => ∃ w0 d1, (.tuple #[]) = v ∧ H' = [[(g2, .cells #[(.int .i64 a2)] 3 (0, 0))], [(g3, .cells #[w0] 23 (0, 0))], d1] ∧ OwnS (Kd.int .u8) M' w0 r0 d1
theorem f_record_Put_3_ok (a0 : Int) (a1 : (List Int)) (a2 : Int) (a3 : (List Int)) (M : IM) (v1 v3 : Value) (g2 g3 : Nat) (c3 : Chunk) (h1 : RS (Kd.int .i64) M v1 a1) (h3 : OwnS (Kd.int .u8) M v3 a3 c3) (res : (List Int)) (h : f_record_Put_3 a0 a1 a2 a3 = some res) :
    Tri Tryz.prog 96 #[(Iv a0), v1, (pt g2 0), (pt g3 0)] M [[(g2, .cells #[(Iv a2)] 3 (0, 0))], [(g3, .cells #[v3] 23 (0, 0))], c3] (f_record_Put_3_post a0 a1 a2 a3 v1 v3 g2 g3 res) := by
 unfold f_record_Put_3 at h
 refine Te Tryz.func96 rfl rfl ?_
 intro F ρ hρ
 refine Sr (Pu (Iv a2) (Lb 0 pl3 (hρ 2) rfl rfl) rfl (Pm (Iv a0) (hρ 0) rfl (Pu (Iv (andI .i64 a2 a0)) (PO.and rfl rfl) rfl (Pu (Bv (decide ((andI .i64 a2 a0) ≠ 0))) (PO.neq rfl rfl) rfl (Nt (Cd (b := decide ((andI .i64 a2 a0) ≠ 0)) rfl (fun hb21 => ?_) (fun hb21 => ?_)))))))
 have h := ite_t hb21 h
 refine Cg (Pu v3 (Lb 1 pl23 (hρ 3) rfl rfl) rfl (Pm v1 (hρ 1) rfl ?_))
 obtain ⟨r22, hr23, h⟩ := bnd h
 refine Wb (We (Cb co97 (f_wire_Row_ok a3 a1 _ _ _ _ h3 h1 r22 hr23) (args2 rfl rfl)) rfl ?_)
 rintro _ M24 _ hle25 ⟨_, ⟨vq26, cq26, rfl, rfl, hq26⟩, rfl⟩
 refine WL.a1 (Wb (We (Es vq26 [vq26] hq26.cells sz23 (hρ 3) rfl (Ow hq26) rfl rfl rfl) rfl ?_))
 rintro _ _ _ - ⟨rfl, rfl⟩
 exact Wz (Qa (Qa (Qb (WQ.endsF h [[(g2, .cells #[(Iv a2)] 3 (0, 0))], [(g3, .cells #[vq26] 23 (0, 0))], cq26] rfl (results0 rfl) hle25 ⟨vq26, cq26, rfl, rfl, hq26⟩))))
 have h := ite_f hb21 h
 exact Ck (WQ.endsF h [[(g2, .cells #[(Iv a2)] 3 (0, 0))], [(g3, .cells #[v3] 23 (0, 0))], c3] rfl (results0 rfl) lr ⟨v3, c3, rfl, rfl, h3⟩)


end Go.Proofs.YtkflneabcannnaaGreatDoor.G
