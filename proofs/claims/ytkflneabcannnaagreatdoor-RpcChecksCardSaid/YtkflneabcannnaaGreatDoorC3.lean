/- Go functions: what they come to, and that they do. Printed by a program of the session (gen). -/
import Derived.Test.YtkflneabcannnaaGreatDoorCF
import Derived.Test.YtkflneabcannnaaGreatDoorC0
import Derived.Test.YtkflneabcannnaaGreatDoorC1
import Derived.Test.YtkflneabcannnaaGreatDoorKConv
import Derived.Test.YtkflneabcannnaaGreatDoorKShar2
import Derived.Test.YtkflneabcannnaaGreatDoorKTight2
set_option linter.unusedVariables false
set_option linter.unusedSimpArgs false
set_option maxHeartbeats 8000000
set_option maxRecDepth 100000
namespace Go.Proofs.YtkflneabcannnaaGreatDoor.G
open Go Go.KK

noncomputable def f_wire_Num (a0 : (List Int)) (a1 : Int) : Option (List Int) :=
  (if (decide ((if (4611686018427387903 : Int) < a1 then (4611686018427387903 : Int) else a1) < (64 : Int))) = true then (grd (a0.length + [IntKind.u8.wrap (if (4611686018427387903 : Int) < a1 then (4611686018427387903 : Int) else a1)].length ≤ 274877906944) (some (a0 ++ [IntKind.u8.wrap (if (4611686018427387903 : Int) < a1 then (4611686018427387903 : Int) else a1)]))) else (if (decide ((if (4611686018427387903 : Int) < a1 then (4611686018427387903 : Int) else a1) < (16384 : Int))) = true then (grd (a0.length + [orI .u8 (64 : Int) (IntKind.u8.wrap (shrI .u64 (if (4611686018427387903 : Int) < a1 then (4611686018427387903 : Int) else a1) (8 : Int))), IntKind.u8.wrap (if (4611686018427387903 : Int) < a1 then (4611686018427387903 : Int) else a1)].length ≤ 274877906944) (some (a0 ++ [orI .u8 (64 : Int) (IntKind.u8.wrap (shrI .u64 (if (4611686018427387903 : Int) < a1 then (4611686018427387903 : Int) else a1) (8 : Int))), IntKind.u8.wrap (if (4611686018427387903 : Int) < a1 then (4611686018427387903 : Int) else a1)]))) else (if (decide ((if (4611686018427387903 : Int) < a1 then (4611686018427387903 : Int) else a1) < (1073741824 : Int))) = true then (grd (a0.length + [orI .u8 (128 : Int) (IntKind.u8.wrap (shrI .u64 (if (4611686018427387903 : Int) < a1 then (4611686018427387903 : Int) else a1) (24 : Int))), IntKind.u8.wrap (shrI .u64 (if (4611686018427387903 : Int) < a1 then (4611686018427387903 : Int) else a1) (16 : Int)), IntKind.u8.wrap (shrI .u64 (if (4611686018427387903 : Int) < a1 then (4611686018427387903 : Int) else a1) (8 : Int)), IntKind.u8.wrap (if (4611686018427387903 : Int) < a1 then (4611686018427387903 : Int) else a1)].length ≤ 274877906944) (some (a0 ++ [orI .u8 (128 : Int) (IntKind.u8.wrap (shrI .u64 (if (4611686018427387903 : Int) < a1 then (4611686018427387903 : Int) else a1) (24 : Int))), IntKind.u8.wrap (shrI .u64 (if (4611686018427387903 : Int) < a1 then (4611686018427387903 : Int) else a1) (16 : Int)), IntKind.u8.wrap (shrI .u64 (if (4611686018427387903 : Int) < a1 then (4611686018427387903 : Int) else a1) (8 : Int)), IntKind.u8.wrap (if (4611686018427387903 : Int) < a1 then (4611686018427387903 : Int) else a1)]))) else (grd (a0.length + [orI .u8 (192 : Int) (IntKind.u8.wrap (shrI .u64 (if (4611686018427387903 : Int) < a1 then (4611686018427387903 : Int) else a1) (56 : Int))), IntKind.u8.wrap (shrI .u64 (if (4611686018427387903 : Int) < a1 then (4611686018427387903 : Int) else a1) (48 : Int)), IntKind.u8.wrap (shrI .u64 (if (4611686018427387903 : Int) < a1 then (4611686018427387903 : Int) else a1) (40 : Int)), IntKind.u8.wrap (shrI .u64 (if (4611686018427387903 : Int) < a1 then (4611686018427387903 : Int) else a1) (32 : Int)), IntKind.u8.wrap (shrI .u64 (if (4611686018427387903 : Int) < a1 then (4611686018427387903 : Int) else a1) (24 : Int)), IntKind.u8.wrap (shrI .u64 (if (4611686018427387903 : Int) < a1 then (4611686018427387903 : Int) else a1) (16 : Int)), IntKind.u8.wrap (shrI .u64 (if (4611686018427387903 : Int) < a1 then (4611686018427387903 : Int) else a1) (8 : Int)), IntKind.u8.wrap (if (4611686018427387903 : Int) < a1 then (4611686018427387903 : Int) else a1)].length ≤ 274877906944) (some (a0 ++ [orI .u8 (192 : Int) (IntKind.u8.wrap (shrI .u64 (if (4611686018427387903 : Int) < a1 then (4611686018427387903 : Int) else a1) (56 : Int))), IntKind.u8.wrap (shrI .u64 (if (4611686018427387903 : Int) < a1 then (4611686018427387903 : Int) else a1) (48 : Int)), IntKind.u8.wrap (shrI .u64 (if (4611686018427387903 : Int) < a1 then (4611686018427387903 : Int) else a1) (40 : Int)), IntKind.u8.wrap (shrI .u64 (if (4611686018427387903 : Int) < a1 then (4611686018427387903 : Int) else a1) (32 : Int)), IntKind.u8.wrap (shrI .u64 (if (4611686018427387903 : Int) < a1 then (4611686018427387903 : Int) else a1) (24 : Int)), IntKind.u8.wrap (shrI .u64 (if (4611686018427387903 : Int) < a1 then (4611686018427387903 : Int) else a1) (16 : Int)), IntKind.u8.wrap (shrI .u64 (if (4611686018427387903 : Int) < a1 then (4611686018427387903 : Int) else a1) (8 : Int)), IntKind.u8.wrap (if (4611686018427387903 : Int) < a1 then (4611686018427387903 : Int) else a1)]))))))
def f_wire_Num_post (a0 : (List Int)) (a1 : Int) (v0 : Value) : (List Int) → Value → IM → HL → Prop :=
  fun (r0 : (List Int)) (v : Value) (M' : IM) (H' : HL) => ∃ vz0 cz0, vz0 = v ∧ H' = [cz0] ∧ OwnS (Kd.int .u8) M' vz0 r0 cz0
theorem f_wire_Num_ok (a0 : (List Int)) (a1 : Int) (M : IM) (v0 : Value) (c0 : Chunk) (h0 : OwnS (Kd.int .u8) M v0 a0 c0) (res : (List Int)) (h : f_wire_Num a0 a1 = some res) :
    Tri Tryz.prog 66 #[v0, (Uv a1)] M [c0] (f_wire_Num_post a0 a1 v0 res) := by
 unfold f_wire_Num at h
 refine Te Tryz.func66 rfl rfl ?_
 intro F ρ hρ
 refine Sr (qa Zs (Ns (qM (Uv a1) (hρ 1) (qu (Uv (mn 4611686018427387903 a1)) (PO.min rfl rfl) (qa (Uv (mn 4611686018427387903 a1)) (Nt (Cs (Bk (Sr (qm (Uv (mn 4611686018427387903 a1)) (qu (Bv (decide ((mn 4611686018427387903 a1) < 64))) (PO.lss rfl rfl) ?_)))))))))))
 refine qa (Bv (decide ((mn 4611686018427387903 a1) < 64))) (Nt (Cd (b := decide ((mn 4611686018427387903 a1) < 64)) rfl (fun hb21 => ?_) (fun hb21 => ?_)))
 have h := ite_t hb21 h
 refine Sr (qM v0 (hρ 0) (qm (Uv (mn 4611686018427387903 a1)) (qu (Yv (IntKind.u8.wrap (mn 4611686018427387903 a1))) (PO.conv us105 Tryz.underlying5 rfl) (We (EO.buildSliceL (cl := [(Yv (IntKind.u8.wrap (mn 4611686018427387903 a1)))]) Tryz.underlying23 iz5 rfl (Pc (Yv (IntKind.u8.wrap (mn 4611686018427387903 a1))) rfl rfl Pz) rfl) rfl ?_))))
 rintro _ _ _ - ⟨rfl, g22, rfl, rfl⟩
 have h24 : OwnS (Kd.int .u8) M (.slice (some ⟨g22, 0, none⟩) 1 1) [IntKind.u8.wrap (mn 4611686018427387903 a1)] [(g22, .cells #[(Yv (IntKind.u8.wrap (mn 4611686018427387903 a1)))] 5 (0, 0))] := OwnS.rows (css := [[(Yv (IntKind.u8.wrap (mn 4611686018427387903 a1)))]]) (Rows.cons rfl Rows.nil) rfl rfl
 obtain ⟨hg28, h⟩ := grd_i h
 refine WL.f1 (We (EO.append (dd := (Kd.int .u8)) (xs := a0) (ys := [IntKind.u8.wrap (mn 4611686018427387903 a1)]) Tryz.underlying23 Tryz.underlying23 in5 rfl (appB (by decide) hg28) (by decide) rfl rfl h0 (h24.src 1 rfl)) rfl ?_)
 rintro v27 _ _ - ⟨rfl, c25, rfl, h26⟩
 exact qa v27 (Nt (Cr (Br (Tr (Qa (Dr (Rf h [c25] rfl (Rs rfl rfl) lr ⟨v27, c25, rfl, rfl, h26⟩)))))))
 have h := ite_f hb21 h
 refine Sr (qm (Uv (mn 4611686018427387903 a1)) (qu (Bv (decide ((mn 4611686018427387903 a1) < 16384))) (PO.lss rfl rfl) (qa (Bv (decide ((mn 4611686018427387903 a1) < 16384))) (Nt (Cd (b := decide ((mn 4611686018427387903 a1) < 16384)) rfl (fun hb29 => ?_) (fun hb29 => ?_))))))
 have h := ite_t hb29 h
 refine Sr (qM v0 (hρ 0) (qm (Uv (mn 4611686018427387903 a1)) (qu (Uv (shrI .u64 (mn 4611686018427387903 a1) (8 : Int))) (PO.shr rfl rfl (by decide)) (qu (Yv (IntKind.u8.wrap (shrI .u64 (mn 4611686018427387903 a1) (8 : Int)))) (PO.conv us105 Tryz.underlying5 rfl) (qu (Yv (orI .u8 64 (IntKind.u8.wrap (shrI .u64 (mn 4611686018427387903 a1) (8 : Int))))) (PO.or rfl rfl) (qm (Uv (mn 4611686018427387903 a1)) (qu (Yv (IntKind.u8.wrap (mn 4611686018427387903 a1))) (PO.conv us105 Tryz.underlying5 rfl) (We (EO.buildSliceL (cl := [(Yv (orI .u8 64 (IntKind.u8.wrap (shrI .u64 (mn 4611686018427387903 a1) (8 : Int))))), (Yv (IntKind.u8.wrap (mn 4611686018427387903 a1)))]) Tryz.underlying23 iz5 rfl (Pc (Yv (orI .u8 64 (IntKind.u8.wrap (shrI .u64 (mn 4611686018427387903 a1) (8 : Int))))) rfl rfl (Pc (Yv (IntKind.u8.wrap (mn 4611686018427387903 a1))) rfl rfl Pz)) rfl) rfl ?_))))))))
 rintro _ _ _ - ⟨rfl, g30, rfl, rfl⟩
 have h32 : OwnS (Kd.int .u8) M (.slice (some ⟨g30, 0, none⟩) 2 2) [orI .u8 64 (IntKind.u8.wrap (shrI .u64 (mn 4611686018427387903 a1) (8 : Int))), IntKind.u8.wrap (mn 4611686018427387903 a1)] [(g30, .cells #[(Yv (orI .u8 64 (IntKind.u8.wrap (shrI .u64 (mn 4611686018427387903 a1) (8 : Int))))), (Yv (IntKind.u8.wrap (mn 4611686018427387903 a1)))] 5 (0, 0))] := OwnS.rows (css := [[(Yv (orI .u8 64 (IntKind.u8.wrap (shrI .u64 (mn 4611686018427387903 a1) (8 : Int)))))], [(Yv (IntKind.u8.wrap (mn 4611686018427387903 a1)))]]) (Rows.cons rfl (Rows.cons rfl Rows.nil)) rfl rfl
 obtain ⟨hg36, h⟩ := grd_i h
 refine WL.f1 (We (EO.append (dd := (Kd.int .u8)) (xs := a0) (ys := [orI .u8 64 (IntKind.u8.wrap (shrI .u64 (mn 4611686018427387903 a1) (8 : Int))), IntKind.u8.wrap (mn 4611686018427387903 a1)]) Tryz.underlying23 Tryz.underlying23 in5 rfl (appB (by decide) hg36) (by decide) rfl rfl h0 (h32.src 1 rfl)) rfl ?_)
 rintro v35 _ _ - ⟨rfl, c33, rfl, h34⟩
 exact qa v35 (Nt (Cr (Br (Tr (Qa (Dr (Rf h [c33] rfl (Rs rfl rfl) lr ⟨v35, c33, rfl, rfl, h34⟩)))))))
 have h := ite_f hb29 h
 refine Sr (qm (Uv (mn 4611686018427387903 a1)) (qu (Bv (decide ((mn 4611686018427387903 a1) < 1073741824))) (PO.lss rfl rfl) (qa (Bv (decide ((mn 4611686018427387903 a1) < 1073741824))) (Nt (Cd (b := decide ((mn 4611686018427387903 a1) < 1073741824)) rfl (fun hb37 => ?_) (fun hb37 => ?_))))))
 have h := ite_t hb37 h
 refine Sr (qM v0 (hρ 0) (qm (Uv (mn 4611686018427387903 a1)) (qu (Uv (shrI .u64 (mn 4611686018427387903 a1) (24 : Int))) (PO.shr rfl rfl (by decide)) (qu (Yv (IntKind.u8.wrap (shrI .u64 (mn 4611686018427387903 a1) (24 : Int)))) (PO.conv us105 Tryz.underlying5 rfl) (qu (Yv (orI .u8 128 (IntKind.u8.wrap (shrI .u64 (mn 4611686018427387903 a1) (24 : Int))))) (PO.or rfl rfl) (qm (Uv (mn 4611686018427387903 a1)) (qu (Uv (shrI .u64 (mn 4611686018427387903 a1) (16 : Int))) (PO.shr rfl rfl (by decide)) (qu (Yv (IntKind.u8.wrap (shrI .u64 (mn 4611686018427387903 a1) (16 : Int)))) (PO.conv us105 Tryz.underlying5 rfl) (qm (Uv (mn 4611686018427387903 a1)) (qu (Uv (shrI .u64 (mn 4611686018427387903 a1) (8 : Int))) (PO.shr rfl rfl (by decide)) (qu (Yv (IntKind.u8.wrap (shrI .u64 (mn 4611686018427387903 a1) (8 : Int)))) (PO.conv us105 Tryz.underlying5 rfl) ?_)))))))))))
 refine qm (Uv (mn 4611686018427387903 a1)) (qu (Yv (IntKind.u8.wrap (mn 4611686018427387903 a1))) (PO.conv us105 Tryz.underlying5 rfl) (We (EO.buildSliceL (cl := [(Yv (orI .u8 128 (IntKind.u8.wrap (shrI .u64 (mn 4611686018427387903 a1) (24 : Int))))), (Yv (IntKind.u8.wrap (shrI .u64 (mn 4611686018427387903 a1) (16 : Int)))), (Yv (IntKind.u8.wrap (shrI .u64 (mn 4611686018427387903 a1) (8 : Int)))), (Yv (IntKind.u8.wrap (mn 4611686018427387903 a1)))]) Tryz.underlying23 iz5 rfl (Pc (Yv (orI .u8 128 (IntKind.u8.wrap (shrI .u64 (mn 4611686018427387903 a1) (24 : Int))))) rfl rfl (Pc (Yv (IntKind.u8.wrap (shrI .u64 (mn 4611686018427387903 a1) (16 : Int)))) rfl rfl (Pc (Yv (IntKind.u8.wrap (shrI .u64 (mn 4611686018427387903 a1) (8 : Int)))) rfl rfl (Pc (Yv (IntKind.u8.wrap (mn 4611686018427387903 a1))) rfl rfl Pz)))) rfl) rfl ?_))
 rintro _ _ _ - ⟨rfl, g38, rfl, rfl⟩
 have h40 : OwnS (Kd.int .u8) M (.slice (some ⟨g38, 0, none⟩) 4 4) [orI .u8 128 (IntKind.u8.wrap (shrI .u64 (mn 4611686018427387903 a1) (24 : Int))), IntKind.u8.wrap (shrI .u64 (mn 4611686018427387903 a1) (16 : Int)), IntKind.u8.wrap (shrI .u64 (mn 4611686018427387903 a1) (8 : Int)), IntKind.u8.wrap (mn 4611686018427387903 a1)] [(g38, .cells #[(Yv (orI .u8 128 (IntKind.u8.wrap (shrI .u64 (mn 4611686018427387903 a1) (24 : Int))))), (Yv (IntKind.u8.wrap (shrI .u64 (mn 4611686018427387903 a1) (16 : Int)))), (Yv (IntKind.u8.wrap (shrI .u64 (mn 4611686018427387903 a1) (8 : Int)))), (Yv (IntKind.u8.wrap (mn 4611686018427387903 a1)))] 5 (0, 0))] := OwnS.rows (css := [[(Yv (orI .u8 128 (IntKind.u8.wrap (shrI .u64 (mn 4611686018427387903 a1) (24 : Int)))))], [(Yv (IntKind.u8.wrap (shrI .u64 (mn 4611686018427387903 a1) (16 : Int))))], [(Yv (IntKind.u8.wrap (shrI .u64 (mn 4611686018427387903 a1) (8 : Int))))], [(Yv (IntKind.u8.wrap (mn 4611686018427387903 a1)))]]) (Rows.cons rfl (Rows.cons rfl (Rows.cons rfl (Rows.cons rfl Rows.nil)))) rfl rfl
 obtain ⟨hg44, h⟩ := grd_i h
 refine WL.f1 (We (EO.append (dd := (Kd.int .u8)) (xs := a0) (ys := [orI .u8 128 (IntKind.u8.wrap (shrI .u64 (mn 4611686018427387903 a1) (24 : Int))), IntKind.u8.wrap (shrI .u64 (mn 4611686018427387903 a1) (16 : Int)), IntKind.u8.wrap (shrI .u64 (mn 4611686018427387903 a1) (8 : Int)), IntKind.u8.wrap (mn 4611686018427387903 a1)]) Tryz.underlying23 Tryz.underlying23 in5 rfl (appB (by decide) hg44) (by decide) rfl rfl h0 (h40.src 1 rfl)) rfl ?_)
 rintro v43 _ _ - ⟨rfl, c41, rfl, h42⟩
 exact qa v43 (Nt (Cr (Br (Tr (Qa (Dr (Rf h [c41] rfl (Rs rfl rfl) lr ⟨v43, c41, rfl, rfl, h42⟩)))))))
 have h := ite_f hb37 h
 refine Ck (Bn (Tc (Sr (qM v0 (hρ 0) (qm (Uv (mn 4611686018427387903 a1)) (qu (Uv (shrI .u64 (mn 4611686018427387903 a1) (56 : Int))) (PO.shr rfl rfl (by decide)) (qu (Yv (IntKind.u8.wrap (shrI .u64 (mn 4611686018427387903 a1) (56 : Int)))) (PO.conv us105 Tryz.underlying5 rfl) (qu (Yv (orI .u8 192 (IntKind.u8.wrap (shrI .u64 (mn 4611686018427387903 a1) (56 : Int))))) (PO.or rfl rfl) (qm (Uv (mn 4611686018427387903 a1)) (qu (Uv (shrI .u64 (mn 4611686018427387903 a1) (48 : Int))) (PO.shr rfl rfl (by decide)) (qu (Yv (IntKind.u8.wrap (shrI .u64 (mn 4611686018427387903 a1) (48 : Int)))) (PO.conv us105 Tryz.underlying5 rfl) ?_)))))))))))
 refine qm (Uv (mn 4611686018427387903 a1)) (qu (Uv (shrI .u64 (mn 4611686018427387903 a1) (40 : Int))) (PO.shr rfl rfl (by decide)) (qu (Yv (IntKind.u8.wrap (shrI .u64 (mn 4611686018427387903 a1) (40 : Int)))) (PO.conv us105 Tryz.underlying5 rfl) (qm (Uv (mn 4611686018427387903 a1)) (qu (Uv (shrI .u64 (mn 4611686018427387903 a1) (32 : Int))) (PO.shr rfl rfl (by decide)) (qu (Yv (IntKind.u8.wrap (shrI .u64 (mn 4611686018427387903 a1) (32 : Int)))) (PO.conv us105 Tryz.underlying5 rfl) (qm (Uv (mn 4611686018427387903 a1)) (qu (Uv (shrI .u64 (mn 4611686018427387903 a1) (24 : Int))) (PO.shr rfl rfl (by decide)) (qu (Yv (IntKind.u8.wrap (shrI .u64 (mn 4611686018427387903 a1) (24 : Int)))) (PO.conv us105 Tryz.underlying5 rfl) (qm (Uv (mn 4611686018427387903 a1)) (qu (Uv (shrI .u64 (mn 4611686018427387903 a1) (16 : Int))) (PO.shr rfl rfl (by decide)) (qu (Yv (IntKind.u8.wrap (shrI .u64 (mn 4611686018427387903 a1) (16 : Int)))) (PO.conv us105 Tryz.underlying5 rfl) ?_)))))))))))
 refine qm (Uv (mn 4611686018427387903 a1)) (qu (Uv (shrI .u64 (mn 4611686018427387903 a1) (8 : Int))) (PO.shr rfl rfl (by decide)) (qu (Yv (IntKind.u8.wrap (shrI .u64 (mn 4611686018427387903 a1) (8 : Int)))) (PO.conv us105 Tryz.underlying5 rfl) (qm (Uv (mn 4611686018427387903 a1)) (qu (Yv (IntKind.u8.wrap (mn 4611686018427387903 a1))) (PO.conv us105 Tryz.underlying5 rfl) (We (EO.buildSliceL (cl := [(Yv (orI .u8 192 (IntKind.u8.wrap (shrI .u64 (mn 4611686018427387903 a1) (56 : Int))))), (Yv (IntKind.u8.wrap (shrI .u64 (mn 4611686018427387903 a1) (48 : Int)))), (Yv (IntKind.u8.wrap (shrI .u64 (mn 4611686018427387903 a1) (40 : Int)))), (Yv (IntKind.u8.wrap (shrI .u64 (mn 4611686018427387903 a1) (32 : Int)))), (Yv (IntKind.u8.wrap (shrI .u64 (mn 4611686018427387903 a1) (24 : Int)))), (Yv (IntKind.u8.wrap (shrI .u64 (mn 4611686018427387903 a1) (16 : Int)))), (Yv (IntKind.u8.wrap (shrI .u64 (mn 4611686018427387903 a1) (8 : Int)))), (Yv (IntKind.u8.wrap (mn 4611686018427387903 a1)))]) Tryz.underlying23 iz5 rfl (Pc (Yv (orI .u8 192 (IntKind.u8.wrap (shrI .u64 (mn 4611686018427387903 a1) (56 : Int))))) rfl rfl (Pc (Yv (IntKind.u8.wrap (shrI .u64 (mn 4611686018427387903 a1) (48 : Int)))) rfl rfl (Pc (Yv (IntKind.u8.wrap (shrI .u64 (mn 4611686018427387903 a1) (40 : Int)))) rfl rfl (Pc (Yv (IntKind.u8.wrap (shrI .u64 (mn 4611686018427387903 a1) (32 : Int)))) rfl rfl (Pc (Yv (IntKind.u8.wrap (shrI .u64 (mn 4611686018427387903 a1) (24 : Int)))) rfl rfl (Pc (Yv (IntKind.u8.wrap (shrI .u64 (mn 4611686018427387903 a1) (16 : Int)))) rfl rfl (Pc (Yv (IntKind.u8.wrap (shrI .u64 (mn 4611686018427387903 a1) (8 : Int)))) rfl rfl (Pc (Yv (IntKind.u8.wrap (mn 4611686018427387903 a1))) rfl rfl Pz)))))))) rfl) rfl ?_)))))
 rintro _ _ _ - ⟨rfl, g45, rfl, rfl⟩
 have h47 : OwnS (Kd.int .u8) M (.slice (some ⟨g45, 0, none⟩) 8 8) [orI .u8 192 (IntKind.u8.wrap (shrI .u64 (mn 4611686018427387903 a1) (56 : Int))), IntKind.u8.wrap (shrI .u64 (mn 4611686018427387903 a1) (48 : Int)), IntKind.u8.wrap (shrI .u64 (mn 4611686018427387903 a1) (40 : Int)), IntKind.u8.wrap (shrI .u64 (mn 4611686018427387903 a1) (32 : Int)), IntKind.u8.wrap (shrI .u64 (mn 4611686018427387903 a1) (24 : Int)), IntKind.u8.wrap (shrI .u64 (mn 4611686018427387903 a1) (16 : Int)), IntKind.u8.wrap (shrI .u64 (mn 4611686018427387903 a1) (8 : Int)), IntKind.u8.wrap (mn 4611686018427387903 a1)] [(g45, .cells #[(Yv (orI .u8 192 (IntKind.u8.wrap (shrI .u64 (mn 4611686018427387903 a1) (56 : Int))))), (Yv (IntKind.u8.wrap (shrI .u64 (mn 4611686018427387903 a1) (48 : Int)))), (Yv (IntKind.u8.wrap (shrI .u64 (mn 4611686018427387903 a1) (40 : Int)))), (Yv (IntKind.u8.wrap (shrI .u64 (mn 4611686018427387903 a1) (32 : Int)))), (Yv (IntKind.u8.wrap (shrI .u64 (mn 4611686018427387903 a1) (24 : Int)))), (Yv (IntKind.u8.wrap (shrI .u64 (mn 4611686018427387903 a1) (16 : Int)))), (Yv (IntKind.u8.wrap (shrI .u64 (mn 4611686018427387903 a1) (8 : Int)))), (Yv (IntKind.u8.wrap (mn 4611686018427387903 a1)))] 5 (0, 0))] := OwnS.rows (css := [[(Yv (orI .u8 192 (IntKind.u8.wrap (shrI .u64 (mn 4611686018427387903 a1) (56 : Int)))))], [(Yv (IntKind.u8.wrap (shrI .u64 (mn 4611686018427387903 a1) (48 : Int))))], [(Yv (IntKind.u8.wrap (shrI .u64 (mn 4611686018427387903 a1) (40 : Int))))], [(Yv (IntKind.u8.wrap (shrI .u64 (mn 4611686018427387903 a1) (32 : Int))))], [(Yv (IntKind.u8.wrap (shrI .u64 (mn 4611686018427387903 a1) (24 : Int))))], [(Yv (IntKind.u8.wrap (shrI .u64 (mn 4611686018427387903 a1) (16 : Int))))], [(Yv (IntKind.u8.wrap (shrI .u64 (mn 4611686018427387903 a1) (8 : Int))))], [(Yv (IntKind.u8.wrap (mn 4611686018427387903 a1)))]]) (Rows.cons rfl (Rows.cons rfl (Rows.cons rfl (Rows.cons rfl (Rows.cons rfl (Rows.cons rfl (Rows.cons rfl (Rows.cons rfl Rows.nil)))))))) rfl rfl
 obtain ⟨hg51, h⟩ := grd_i h
 refine WL.f1 (We (EO.append (dd := (Kd.int .u8)) (xs := a0) (ys := [orI .u8 192 (IntKind.u8.wrap (shrI .u64 (mn 4611686018427387903 a1) (56 : Int))), IntKind.u8.wrap (shrI .u64 (mn 4611686018427387903 a1) (48 : Int)), IntKind.u8.wrap (shrI .u64 (mn 4611686018427387903 a1) (40 : Int)), IntKind.u8.wrap (shrI .u64 (mn 4611686018427387903 a1) (32 : Int)), IntKind.u8.wrap (shrI .u64 (mn 4611686018427387903 a1) (24 : Int)), IntKind.u8.wrap (shrI .u64 (mn 4611686018427387903 a1) (16 : Int)), IntKind.u8.wrap (shrI .u64 (mn 4611686018427387903 a1) (8 : Int)), IntKind.u8.wrap (mn 4611686018427387903 a1)]) Tryz.underlying23 Tryz.underlying23 in5 rfl (appB (by decide) hg51) (by decide) rfl rfl h0 (h47.src 1 rfl)) rfl ?_)
 rintro v50 _ _ - ⟨rfl, c48, rfl, h49⟩
 exact qa v50 (Nt (Cr (Qa (Dr (Rf h [c48] rfl (Rs rfl rfl) lr ⟨v50, c48, rfl, rfl, h49⟩)))))

noncomputable def f_wire_Int (a0 : (List Int)) (a1 : Int) : Option (List Int) :=
  ((f_wire_Num a0 (IntKind.u64.wrap (if a1 < (0 : Int) then (0 : Int) else a1))).bind fun r21 => (some r21))
def f_wire_Int_post (a0 : (List Int)) (a1 : Int) (v0 : Value) : (List Int) → Value → IM → HL → Prop :=
  fun (r0 : (List Int)) (v : Value) (M' : IM) (H' : HL) => ∃ vz0 cz0, vz0 = v ∧ H' = [cz0] ∧ OwnS (Kd.int .u8) M' vz0 r0 cz0
theorem f_wire_Int_ok (a0 : (List Int)) (a1 : Int) (M : IM) (v0 : Value) (c0 : Chunk) (h0 : OwnS (Kd.int .u8) M v0 a0 c0) (res : (List Int)) (h : f_wire_Int a0 a1 = some res) :
    Tri Tryz.prog 24 #[v0, (Iv a1)] M [c0] (f_wire_Int_post a0 a1 v0 res) := by
 unfold f_wire_Int at h
 refine Te Tryz.func24 rfl rfl ?_
 intro F ρ hρ
 refine Sr (qa Zs (Ns (qM v0 (hρ 0) (qM (Iv a1) (hρ 1) (qu (Iv (if a1 < 0 then (0 : Int) else a1)) (PO.max rfl rfl) (qu (Uv (IntKind.u64.wrap (if a1 < 0 then (0 : Int) else a1))) (PO.conv us3 Tryz.underlying105 rfl) ?_))))))
 obtain ⟨r21, hr22, h⟩ := bnd h
 refine We (Cb co66 (f_wire_Num_ok a0 (IntKind.u64.wrap (if a1 < 0 then (0 : Int) else a1)) _ _ _ h0 r21 hr22) (args2 rfl rfl)) rfl ?_
 rintro _ M23 _ hle24 ⟨_, ⟨vq25, cq25, rfl, rfl, hq25⟩, rfl⟩
 exact WL.a1 (qa vq25 (Nt (Cr (Rf h [cq25] rfl (Rs rfl rfl) hle24 ⟨vq25, cq25, rfl, rfl, hq25⟩))))

noncomputable def f_wire_Flag (a0 : (List Int)) (a1 : Bool) : Option (List Int) :=
  (if a1 = true then (grd (a0.length + [(1 : Int)].length ≤ 274877906944) (some (a0 ++ [(1 : Int)]))) else (grd (a0.length + [(0 : Int)].length ≤ 274877906944) (some (a0 ++ [(0 : Int)]))))
def f_wire_Flag_post (a0 : (List Int)) (a1 : Bool) (v0 : Value) : (List Int) → Value → IM → HL → Prop :=
  fun (r0 : (List Int)) (v : Value) (M' : IM) (H' : HL) => ∃ vz0 cz0, vz0 = v ∧ H' = [cz0] ∧ OwnS (Kd.int .u8) M' vz0 r0 cz0
theorem f_wire_Flag_ok (a0 : (List Int)) (a1 : Bool) (M : IM) (v0 : Value) (c0 : Chunk) (h0 : OwnS (Kd.int .u8) M v0 a0 c0) (res : (List Int)) (h : f_wire_Flag a0 a1 = some res) :
    Tri Tryz.prog 26 #[v0, (Bv a1)] M [c0] (f_wire_Flag_post a0 a1 v0 res) := by
 unfold f_wire_Flag at h
 refine Te Tryz.func26 rfl rfl ?_
 intro F ρ hρ
 refine Sr (qa Zs (Nt (Cs (Sr (qM (Bv a1) (hρ 1) (Nt (Cd (b := a1) rfl (fun hb21 => ?_) (fun hb21 => ?_))))))))
 have h := ite_t hb21 h
 refine Sr (qM v0 (hρ 0) (We (EO.buildSliceL (cl := [(Yv 1)]) Tryz.underlying23 iz5 rfl (Pc (Yv 1) rfl rfl Pz) rfl) rfl ?_))
 rintro _ _ _ - ⟨rfl, g22, rfl, rfl⟩
 have h24 : OwnS (Kd.int .u8) M (.slice (some ⟨g22, 0, none⟩) 1 1) [(1 : Int)] [(g22, .cells #[(Yv 1)] 5 (0, 0))] := OwnS.rows (css := [[(Yv 1)]]) (Rows.cons rfl Rows.nil) rfl rfl
 obtain ⟨hg28, h⟩ := grd_i h
 refine WL.f1 (We (EO.append (dd := (Kd.int .u8)) (xs := a0) (ys := [(1 : Int)]) Tryz.underlying23 Tryz.underlying23 in5 rfl (appB (by decide) hg28) (by decide) rfl rfl h0 (h24.src 1 rfl)) rfl ?_)
 rintro v27 _ _ - ⟨rfl, c25, rfl, h26⟩
 exact qa v27 (Nt (Cr (Tr (Qa (Dr (Rf h [c25] rfl (Rs rfl rfl) lr ⟨v27, c25, rfl, rfl, h26⟩))))))
 have h := ite_f hb21 h
 refine Ck (Tc (Sr (qM v0 (hρ 0) (We (EO.buildSliceL (cl := [(Yv 0)]) Tryz.underlying23 iz5 rfl (Pc (Yv 0) rfl rfl Pz) rfl) rfl ?_))))
 rintro _ _ _ - ⟨rfl, g29, rfl, rfl⟩
 have h31 : OwnS (Kd.int .u8) M (.slice (some ⟨g29, 0, none⟩) 1 1) [(0 : Int)] [(g29, .cells #[(Yv 0)] 5 (0, 0))] := OwnS.rows (css := [[(Yv 0)]]) (Rows.cons rfl Rows.nil) rfl rfl
 obtain ⟨hg35, h⟩ := grd_i h
 refine WL.f1 (We (EO.append (dd := (Kd.int .u8)) (xs := a0) (ys := [(0 : Int)]) Tryz.underlying23 Tryz.underlying23 in5 rfl (appB (by decide) hg35) (by decide) rfl rfl h0 (h31.src 1 rfl)) rfl ?_)
 rintro v34 _ _ - ⟨rfl, c32, rfl, h33⟩
 exact qa v34 (Nt (Cr (Qa (Dr (Rf h [c32] rfl (Rs rfl rfl) lr ⟨v34, c32, rfl, rfl, h33⟩)))))

noncomputable def f_rpc_Put_1 (a0 : Int) (a1 : Int) (a2 : Int) (a3 : (List Int)) : Option (List Int) :=
  (if (decide ((andI .i64 a2 a0) ≠ (0 : Int))) = true then ((f_wire_Int a3 a1).bind fun r22 => (some r22)) else (some a3))
def f_rpc_Put_1_post (a0 : Int) (a1 : Int) (a2 : Int) (a3 : (List Int)) (v3 : Value) (g2 g3 : Nat) : (List Int) → Value → IM → HL → Prop :=
  fun (r0 : (List Int)) (v : Value) (M' : IM) (H' : HL) => ∃ w0 d1, (.tuple #[]) = v ∧ H' = [[(g2, .cells #[(.int .i64 a2)] 3 (0, 0))], [(g3, .cells #[w0] 23 (0, 0))], d1] ∧ OwnS (Kd.int .u8) M' w0 r0 d1
theorem f_rpc_Put_1_ok (a0 : Int) (a1 : Int) (a2 : Int) (a3 : (List Int)) (M : IM) (v3 : Value) (g2 g3 : Nat) (c3 : Chunk) (h3 : OwnS (Kd.int .u8) M v3 a3 c3) (res : (List Int)) (h : f_rpc_Put_1 a0 a1 a2 a3 = some res) :
    Tri Tryz.prog 25 #[(Iv a0), (Iv a1), (pt g2 0), (pt g3 0)] M [[(g2, .cells #[(Iv a2)] 3 (0, 0))], [(g3, .cells #[v3] 23 (0, 0))], c3] (f_rpc_Put_1_post a0 a1 a2 a3 v3 g2 g3 res) := by
 unfold f_rpc_Put_1 at h
 refine Te Tryz.func25 rfl rfl ?_
 intro F ρ hρ
 refine Sr (qu (Iv a2) (Lb 0 pl3 (hρ 2) rfl rfl) (qM (Iv a0) (hρ 0) (qu (Iv (andI .i64 a2 a0)) (PO.and rfl rfl) (qu (Bv (decide ((andI .i64 a2 a0) ≠ 0))) (PO.neq rfl rfl) (Nt (Cd (b := decide ((andI .i64 a2 a0) ≠ 0)) rfl (fun hb21 => ?_) (fun hb21 => ?_)))))))
 have h := ite_t hb21 h
 refine Cg (qu v3 (Lb 1 pl23 (hρ 3) rfl rfl) (qM (Iv a1) (hρ 1) ?_))
 obtain ⟨r22, hr23, h⟩ := bnd h
 refine Wb (We (Cb co24 (f_wire_Int_ok a3 a1 _ _ _ h3 r22 hr23) (args2 rfl rfl)) rfl ?_)
 rintro _ M24 _ hle25 ⟨_, ⟨vq26, cq26, rfl, rfl, hq26⟩, rfl⟩
 refine WL.a1 (Wb (We (Es vq26 [vq26] hq26.cells sz23 (hρ 3) rfl (Ow hq26) rfl rfl rfl) rfl ?_))
 rintro _ _ _ - ⟨rfl, rfl⟩
 exact Wz (Qa (Qa (Qb (WQ.endsF h [[(g2, .cells #[(Iv a2)] 3 (0, 0))], [(g3, .cells #[vq26] 23 (0, 0))], cq26] rfl (results0 rfl) hle25 ⟨vq26, cq26, rfl, rfl, hq26⟩))))
 have h := ite_f hb21 h
 exact Ck (WQ.endsF h [[(g2, .cells #[(Iv a2)] 3 (0, 0))], [(g3, .cells #[v3] 23 (0, 0))], c3] rfl (results0 rfl) lr ⟨v3, c3, rfl, rfl, h3⟩)

noncomputable def f_wire_Text (a0 : (List Int)) (a1 : (List Int)) : Option (List Int) :=
  ((f_wire_Int a0 (a1.length : Int)).bind fun r21 => (grd (r21.length + a1.length ≤ 274877906944) (some (r21 ++ a1))))
def f_wire_Text_post (a0 : (List Int)) (a1 : (List Int)) (v0 v1 : Value) : (List Int) → Value → IM → HL → Prop :=
  fun (r0 : (List Int)) (v : Value) (M' : IM) (H' : HL) => ∃ vz0 cz0, vz0 = v ∧ H' = [cz0] ∧ OwnS (Kd.int .u8) M' vz0 r0 cz0
theorem f_wire_Text_ok (a0 : (List Int)) (a1 : (List Int)) (M : IM) (v0 v1 : Value) (c0 : Chunk) (h0 : OwnS (Kd.int .u8) M v0 a0 c0) (h1 : RS (Kd.int .u8) M v1 a1) (res : (List Int)) (h : f_wire_Text a0 a1 = some res) :
    Tri Tryz.prog 27 #[v0, v1] M [c0] (f_wire_Text_post a0 a1 v0 v1 res) := by
 unfold f_wire_Text at h
 refine Te Tryz.func27 rfl rfl ?_
 intro F ρ hρ
 refine Sr (qa Zs (Ns (qM v0 (hρ 0) (qM v1 (hρ 1) (qu (Iv (a1.length : Int)) (PO.lenS Tryz.underlying23 rfl h1.len) ?_)))))
 obtain ⟨r21, hr22, h⟩ := bnd h
 refine We (Cb co24 (f_wire_Int_ok a0 (a1.length : Int) _ _ _ h0 r21 hr22) (args2 rfl rfl)) rfl ?_
 rintro _ M23 _ hle24 ⟨_, ⟨vq25, cq25, rfl, rfl, hq25⟩, rfl⟩
 refine WL.a1 (qM v1 (hρ 1) ?_)
 obtain ⟨hg29, h⟩ := grd_i h
 have h1 := h1.mono hle24
 refine We (EO.append (dd := (Kd.int .u8)) (xs := r21) (ys := a1) Tryz.underlying23 Tryz.underlying23 in5 rfl (appB (by decide) hg29) (by decide) rfl rfl hq25 (h1.src _)) rfl ?_
 rintro v28 _ _ - ⟨rfl, c26, rfl, h27⟩
 exact qa v28 (Nt (Cr (Rf h [c26] rfl (Rs rfl rfl) hle24 ⟨v28, c26, rfl, rfl, h27⟩)))

noncomputable def f_record_Put_1 (a0 : Int) (a1 : Int) (a2 : Int) (a3 : (List Int)) : Option (List Int) :=
  (if (decide ((andI .i64 a2 a0) ≠ (0 : Int))) = true then ((f_wire_Int a3 a1).bind fun r22 => (some r22)) else (some a3))
def f_record_Put_1_post (a0 : Int) (a1 : Int) (a2 : Int) (a3 : (List Int)) (v3 : Value) (g2 g3 : Nat) : (List Int) → Value → IM → HL → Prop :=
  fun (r0 : (List Int)) (v : Value) (M' : IM) (H' : HL) => ∃ w0 d1, (.tuple #[]) = v ∧ H' = [[(g2, .cells #[(.int .i64 a2)] 3 (0, 0))], [(g3, .cells #[w0] 23 (0, 0))], d1] ∧ OwnS (Kd.int .u8) M' w0 r0 d1
theorem f_record_Put_1_ok (a0 : Int) (a1 : Int) (a2 : Int) (a3 : (List Int)) (M : IM) (v3 : Value) (g2 g3 : Nat) (c3 : Chunk) (h3 : OwnS (Kd.int .u8) M v3 a3 c3) (res : (List Int)) (h : f_record_Put_1 a0 a1 a2 a3 = some res) :
    Tri Tryz.prog 94 #[(Iv a0), (Iv a1), (pt g2 0), (pt g3 0)] M [[(g2, .cells #[(Iv a2)] 3 (0, 0))], [(g3, .cells #[v3] 23 (0, 0))], c3] (f_record_Put_1_post a0 a1 a2 a3 v3 g2 g3 res) := by
 unfold f_record_Put_1 at h
 refine Te Tryz.func94 rfl rfl ?_
 intro F ρ hρ
 refine Sr (qu (Iv a2) (Lb 0 pl3 (hρ 2) rfl rfl) (qM (Iv a0) (hρ 0) (qu (Iv (andI .i64 a2 a0)) (PO.and rfl rfl) (qu (Bv (decide ((andI .i64 a2 a0) ≠ 0))) (PO.neq rfl rfl) (Nt (Cd (b := decide ((andI .i64 a2 a0) ≠ 0)) rfl (fun hb21 => ?_) (fun hb21 => ?_)))))))
 have h := ite_t hb21 h
 refine Cg (qu v3 (Lb 1 pl23 (hρ 3) rfl rfl) (qM (Iv a1) (hρ 1) ?_))
 obtain ⟨r22, hr23, h⟩ := bnd h
 refine Wb (We (Cb co24 (f_wire_Int_ok a3 a1 _ _ _ h3 r22 hr23) (args2 rfl rfl)) rfl ?_)
 rintro _ M24 _ hle25 ⟨_, ⟨vq26, cq26, rfl, rfl, hq26⟩, rfl⟩
 refine WL.a1 (Wb (We (Es vq26 [vq26] hq26.cells sz23 (hρ 3) rfl (Ow hq26) rfl rfl rfl) rfl ?_))
 rintro _ _ _ - ⟨rfl, rfl⟩
 exact Wz (Qa (Qa (Qb (WQ.endsF h [[(g2, .cells #[(Iv a2)] 3 (0, 0))], [(g3, .cells #[vq26] 23 (0, 0))], cq26] rfl (results0 rfl) hle25 ⟨vq26, cq26, rfl, rfl, hq26⟩))))
 have h := ite_f hb21 h
 exact Ck (WQ.endsF h [[(g2, .cells #[(Iv a2)] 3 (0, 0))], [(g3, .cells #[v3] 23 (0, 0))], c3] rfl (results0 rfl) lr ⟨v3, c3, rfl, rfl, h3⟩)

noncomputable def f_record_Put_2 (a0 : Int) (a1 : ByteArray) (a2 : Int) (a3 : (List Int)) : Option (List Int) :=
  (if (decide ((andI .i64 a2 a0) ≠ (0 : Int))) = true then ((f_wire_Text a3 (bytesOf a1)).bind fun r25 => (some r25)) else (some a3))
def f_record_Put_2_post (a0 : Int) (a1 : ByteArray) (a2 : Int) (a3 : (List Int)) (v3 : Value) (g2 g3 : Nat) : (List Int) → Value → IM → HL → Prop :=
  fun (r0 : (List Int)) (v : Value) (M' : IM) (H' : HL) => ∃ w0 d1, (.tuple #[]) = v ∧ H' = [[(g2, .cells #[(.int .i64 a2)] 3 (0, 0))], [(g3, .cells #[w0] 23 (0, 0))], d1] ∧ OwnS (Kd.int .u8) M' w0 r0 d1
theorem f_record_Put_2_ok (a0 : Int) (a1 : ByteArray) (a2 : Int) (a3 : (List Int)) (M : IM) (v3 : Value) (g2 g3 : Nat) (c3 : Chunk) (h3 : OwnS (Kd.int .u8) M v3 a3 c3) (res : (List Int)) (h : f_record_Put_2 a0 a1 a2 a3 = some res) :
    Tri Tryz.prog 95 #[(Iv a0), (Sv a1), (pt g2 0), (pt g3 0)] M [[(g2, .cells #[(Iv a2)] 3 (0, 0))], [(g3, .cells #[v3] 23 (0, 0))], c3] (f_record_Put_2_post a0 a1 a2 a3 v3 g2 g3 res) := by
 unfold f_record_Put_2 at h
 refine Te Tryz.func95 rfl rfl ?_
 intro F ρ hρ
 refine Sr (qu (Iv a2) (Lb 0 pl3 (hρ 2) rfl rfl) (qM (Iv a0) (hρ 0) (qu (Iv (andI .i64 a2 a0)) (PO.and rfl rfl) (qu (Bv (decide ((andI .i64 a2 a0) ≠ 0))) (PO.neq rfl rfl) (Nt (Cd (b := decide ((andI .i64 a2 a0) ≠ 0)) rfl (fun hb21 => ?_) (fun hb21 => ?_)))))))
 have h := ite_t hb21 h
 refine Cg (qu v3 (Lb 1 pl23 (hρ 3) rfl rfl) (qM (Sv a1) (hρ 1) (We (EO.s2b Tryz.underlying9 Tryz.underlying23 Tryz.underlying5 rfl) rfl ?_)))
 rintro v24 _ _ - ⟨rfl, c22, rfl, h23⟩
 obtain ⟨r25, hr26, h⟩ := bnd h
 refine WL.f3 (WL.f1 (We (EO.call2 co27 (Tri.lend h23.excl fun w0_ H0_ hs0_ => (f_wire_Text_ok a3 (bytesOf a1) _ _ _ _ (h3.mono (IM.le_add _ _)) (h23.rs hs0_) r25 hr26)) (args2 rfl rfl)) rfl ?_))
 rintro _ _ _ hle28 ⟨_, ⟨Ml30, Hl31, hll32, rfl, rfl, ⟨vq29, cq29, rfl, rfl, hq29⟩⟩, rfl⟩
 have hq29 : OwnS (Kd.int .u8) (Ml30.minus c22) vq29 r25 cq29 := hq29.any (Kd.int_flat _)
 refine WL.a2 (WL.f3 (We (Es vq29 [vq29] hq29.cells sz23 (hρ 3) rfl (Ow hq29) rfl rfl rfl) rfl ?_))
 rintro _ _ _ - ⟨rfl, rfl⟩
 exact Wz (Qa (Dr (Qa (Qa (Qb (WQ.endsF h [[(g2, .cells #[(Iv a2)] 3 (0, 0))], [(g3, .cells #[vq29] 23 (0, 0))], cq29] rfl (results0 rfl) hle28 ⟨vq29, cq29, rfl, rfl, hq29⟩))))))
 have h := ite_f hb21 h
 exact Ck (WQ.endsF h [[(g2, .cells #[(Iv a2)] 3 (0, 0))], [(g3, .cells #[v3] 23 (0, 0))], c3] rfl (results0 rfl) lr ⟨v3, c3, rfl, rfl, h3⟩)

noncomputable def f_wire_Row_l0 (a1 : (List Int)) (s_ : ((List Int) × Int)) : Option (((List Int) × Int) ⊕ (List Int)) :=
  match s_ with
  | (x29, x30) =>
    (if (decide (x30 < (a1.length : Int))) = true then (grd (0 ≤ x30 ∧ x30 < a1.length) ((f_wire_Int x29 (rd a1 x30)).bind fun r40 => (some (Sum.inl (r40, IntKind.i64.wrap (x30 + (1 : Int))))))) else (some (Sum.inr x29)))
noncomputable def f_wire_Row (a0 : (List Int)) (a1 : (List Int)) : Option (List Int) :=
  ((f_wire_Int a0 (a1.length : Int)).bind fun r21 => ((((iter (f_wire_Row_l0 a1) (r21, (0 : Int))).bind (fun (x31 : (List Int)) => (some x31))) : Option (List Int)).bind fun x26 => (some x26)))
def f_wire_Row_post (a0 : (List Int)) (a1 : (List Int)) (v0 v1 : Value) : (List Int) → Value → IM → HL → Prop :=
  fun (r0 : (List Int)) (v : Value) (M' : IM) (H' : HL) => ∃ vz0 cz0, vz0 = v ∧ H' = [cz0] ∧ OwnS (Kd.int .u8) M' vz0 r0 cz0
theorem f_wire_Row_ok (a0 : (List Int)) (a1 : (List Int)) (M : IM) (v0 v1 : Value) (c0 : Chunk) (h0 : OwnS (Kd.int .u8) M v0 a0 c0) (h1 : RS (Kd.int .i64) M v1 a1) (res : (List Int)) (h : f_wire_Row a0 a1 = some res) :
    Tri Tryz.prog 97 #[v0, v1] M [c0] (f_wire_Row_post a0 a1 v0 v1 res) := by
 unfold f_wire_Row at h
 refine Te Tryz.func97 rfl rfl ?_
 intro F ρ hρ
 refine Sr (qa Zs (Ns (qM v0 (hρ 0) (qM v1 (hρ 1) (qu (Iv (a1.length : Int)) (PO.lenS Tryz.underlying56 rfl h1.len) ?_)))))
 obtain ⟨r21, hr22, h⟩ := bnd h
 refine We (Cb co24 (f_wire_Int_ok a0 (a1.length : Int) _ _ _ h0 r21 hr22) (args2 rfl rfl)) rfl ?_
 rintro _ M23 _ hle24 ⟨_, ⟨vq25, cq25, rfl, rfl, hq25⟩, rfl⟩
 refine WL.a1 (qa vq25 (Nt ?_))
 obtain ⟨x26, hj27, h⟩ := bnd h
 refine Jf (fun (x26 : (List Int)) ρ' M' H' => ∃ vx26 cx26, M23.le M' ∧ cx26 :: F = H' ∧ ρ' 0 = vx26 ∧ OwnS (Kd.int .u8) M' vx26 x26 cx26) x26 ?_ ?_
 have h := hj27
 refine Sr (qM v1 (hρ 1) ?_)
 have h1 := h1.mono hle24
 refine qu (Iv (a1.length : Int)) (PO.lenS Tryz.underlying56 rfl h1.len) (qm (Iv 0) (Nt (Bk ?_)))
 obtain ⟨e28, he28, hK28⟩ := bnd h
 clear h
 refine WC.loop he28 (fun (p_ : ((List Int) × Int)) ρ' M' H' => match p_ with | (x29, x30) => ∃ vx29 cx29, M23.le M' ∧ cx29 :: F = H' ∧ ρ' 0 = vx29 ∧ ρ' 11 = v1 ∧ ρ' 12 = (Iv (a1.length : Int)) ∧ ρ' 13 = (Iv x30) ∧ OwnS (Kd.int .u8) M' vx29 x29 cx29) ?_ ?_
 exact ⟨vq25, cq25, lr, rfl, rfl, rfl, rfl, rfl, hq25⟩
 rintro ⟨x29, x30⟩ o28 ρ28 M28 H28 h ⟨vx29, cx29, hle28, rfl, hs28_0, hs28_11, hs28_12, hs28_13, hx29⟩
 unfold f_wire_Row_l0 at h
 refine Sr (qu (Bv (decide (x30 < (a1.length : Int)))) (PO.lss hs28_13 hs28_12) (Nt (Cs (Cd (b := decide (x30 < (a1.length : Int))) rfl (fun hb32 => ?_) (fun hb32 => ?_)))))
 have h := ite_t hb32 h
 refine Ck (Tc (Cs (Bk (Sr ?_))))
 obtain ⟨hg33, h⟩ := grd_i h
 have h1 := h1.mono hle28
 obtain ⟨p34, cs35, hat36, hrc37, hhas38⟩ := h1.at hg33.1 hg33.2 (by decide)
 obtain rfl := hrc37
 refine qu (.pointer (some p34)) (PO.indexAddr (n := a1.length) Tryz.underlying56 sz3 hs28_11 hs28_13 hg33.1 hg33.2 hat36) (qu (Iv (rd a1 x30)) (PO.loadM pl3 rfl (IM.has0 hhas38)) (qa (Iv (rd a1 x30)) (Nt (Cg (qM vx29 hs28_0 (qm (Iv (rd a1 x30)) ?_))))))
 obtain ⟨r40, hr41, h⟩ := bnd h
 refine We (Cb co24 (f_wire_Int_ok x29 (rd a1 x30) _ _ _ hx29 r40 hr41) (args2 rfl rfl)) rfl ?_
 rintro _ M42 _ hle43 ⟨_, ⟨vq44, cq44, rfl, rfl, hq44⟩, rfl⟩
 exact WL.a1 (qa vq44 (Wz (Bn (Tc (Cg (qu (Iv (IntKind.i64.wrap (x30 + 1))) (PO.add hs28_13 rfl) (qm (Iv (IntKind.i64.wrap (x30 + 1))) (Wz (WQ.again (r40, IntKind.i64.wrap (x30 + 1)) (oi h).symm ⟨vq44, cq44, (hle28.trans hle43), rfl, rfl, hs28_11, hs28_12, rfl, hq44⟩)))))))))
 have h := ite_f hb32 h
 refine WC.exit (WQ.thenE (WQ.leaveE x29 (oi h).symm (fun heq28 => ?_)))
 subst heq28
 have h := hK28
 refine WQ.blockH ?_
 obtain rfl := oi h
 exact Tj ⟨vx29, cx29, hle28, rfl, hs28_0, hx29⟩
 rintro ρ27 M27 H27 ⟨vx26, cx26, hle27, rfl, hs27_0, hx26⟩
 exact Sr (qM vx26 hs27_0 (qa vx26 (Nt (Cr (Rf h [cx26] rfl (Rs rfl rfl) (hle24.trans hle27) ⟨vx26, cx26, rfl, rfl, hx26⟩)))))

noncomputable def f_record_Put_3 (a0 : Int) (a1 : (List Int)) (a2 : Int) (a3 : (List Int)) : Option (List Int) :=
  (if (decide ((andI .i64 a2 a0) ≠ (0 : Int))) = true then ((f_wire_Row a3 a1).bind fun r22 => (some r22)) else (some a3))
def f_record_Put_3_post (a0 : Int) (a1 : (List Int)) (a2 : Int) (a3 : (List Int)) (v1 v3 : Value) (g2 g3 : Nat) : (List Int) → Value → IM → HL → Prop :=
  fun (r0 : (List Int)) (v : Value) (M' : IM) (H' : HL) => ∃ w0 d1, (.tuple #[]) = v ∧ H' = [[(g2, .cells #[(.int .i64 a2)] 3 (0, 0))], [(g3, .cells #[w0] 23 (0, 0))], d1] ∧ OwnS (Kd.int .u8) M' w0 r0 d1
theorem f_record_Put_3_ok (a0 : Int) (a1 : (List Int)) (a2 : Int) (a3 : (List Int)) (M : IM) (v1 v3 : Value) (g2 g3 : Nat) (c3 : Chunk) (h1 : RS (Kd.int .i64) M v1 a1) (h3 : OwnS (Kd.int .u8) M v3 a3 c3) (res : (List Int)) (h : f_record_Put_3 a0 a1 a2 a3 = some res) :
    Tri Tryz.prog 96 #[(Iv a0), v1, (pt g2 0), (pt g3 0)] M [[(g2, .cells #[(Iv a2)] 3 (0, 0))], [(g3, .cells #[v3] 23 (0, 0))], c3] (f_record_Put_3_post a0 a1 a2 a3 v1 v3 g2 g3 res) := by
 unfold f_record_Put_3 at h
 refine Te Tryz.func96 rfl rfl ?_
 intro F ρ hρ
 refine Sr (qu (Iv a2) (Lb 0 pl3 (hρ 2) rfl rfl) (qM (Iv a0) (hρ 0) (qu (Iv (andI .i64 a2 a0)) (PO.and rfl rfl) (qu (Bv (decide ((andI .i64 a2 a0) ≠ 0))) (PO.neq rfl rfl) (Nt (Cd (b := decide ((andI .i64 a2 a0) ≠ 0)) rfl (fun hb21 => ?_) (fun hb21 => ?_)))))))
 have h := ite_t hb21 h
 refine Cg (qu v3 (Lb 1 pl23 (hρ 3) rfl rfl) (qM v1 (hρ 1) ?_))
 obtain ⟨r22, hr23, h⟩ := bnd h
 refine Wb (We (Cb co97 (f_wire_Row_ok a3 a1 _ _ _ _ h3 h1 r22 hr23) (args2 rfl rfl)) rfl ?_)
 rintro _ M24 _ hle25 ⟨_, ⟨vq26, cq26, rfl, rfl, hq26⟩, rfl⟩
 refine WL.a1 (Wb (We (Es vq26 [vq26] hq26.cells sz23 (hρ 3) rfl (Ow hq26) rfl rfl rfl) rfl ?_))
 rintro _ _ _ - ⟨rfl, rfl⟩
 exact Wz (Qa (Qa (Qb (WQ.endsF h [[(g2, .cells #[(Iv a2)] 3 (0, 0))], [(g3, .cells #[vq26] 23 (0, 0))], cq26] rfl (results0 rfl) hle25 ⟨vq26, cq26, rfl, rfl, hq26⟩))))
 have h := ite_f hb21 h
 exact Ck (WQ.endsF h [[(g2, .cells #[(Iv a2)] 3 (0, 0))], [(g3, .cells #[v3] 23 (0, 0))], c3] rfl (results0 rfl) lr ⟨v3, c3, rfl, rfl, h3⟩)

noncomputable def f_record_Put (a0 : (List Int)) (a1 : T_api_Record) : Option ((List Int) × GErr) :=
  ((f_record_Check a1).bind fun r23 => (if (!r23.isNil) = true then (some ([], r23)) else ((f_record_about a1.Kind).bind fun r30 => (grd (a0.length + [IntKind.u8.wrap a1.Kind].length ≤ 274877906944) ((f_record_Put_1 (1 : Int) a1.Broker r30 (a0 ++ [IntKind.u8.wrap a1.Kind])).bind fun r43 => ((f_record_Put_1 (2 : Int) a1.Epoch r30 r43).bind fun r50 => ((f_record_Put_1 (4 : Int) a1.Topic r30 r50).bind fun r57 => ((f_record_Put_1 (8 : Int) a1.Part r30 r57).bind fun r64 => ((f_record_Put_1 (16 : Int) a1.Leader r30 r64).bind fun r71 => ((f_record_Put_1 (32 : Int) a1.Client r30 r71).bind fun r78 => ((f_record_Put_1 (32 : Int) a1.Serial r30 r78).bind fun r85 => ((f_record_Put_1 (32 : Int) a1.Code r30 r85).bind fun r92 => (((if (decide ((andI .i64 r30 (64 : Int)) ≠ (0 : Int))) = true then ((f_wire_Flag r92 a1.Flag).bind fun r102 => (some r102)) else (some r92)) : Option (List Int)).bind fun x99 => ((f_record_Put_2 (128 : Int) a1.Name r30 x99).bind fun r107 => ((f_record_Put_2 (256 : Int) a1.Key r30 r107).bind fun r114 => ((f_record_Put_2 (512 : Int) a1.Value r30 r114).bind fun r121 => ((f_record_Put_2 (1024 : Int) a1.Rack r30 r121).bind fun r128 => ((f_record_Put_3 (2048 : Int) a1.Ids r30 r128).bind fun r135 => ((f_record_Put_3 (4096 : Int) a1.Isr r30 r135).bind fun r142 => ((f_record_Put_3 (8192 : Int) a1.Add r30 r142).bind fun r149 => ((f_record_Put_3 (8192 : Int) a1.Drop r30 r149).bind fun r156 => (some (r156, GErr.nil)))))))))))))))))))))))
def f_record_Put_post (a0 : (List Int)) (a1 : T_api_Record) (v0 v1_14 v1_15 v1_16 v1_17 : Value) : ((List Int) × GErr) → Value → IM → HL → Prop :=
  fun (p_ : ((List Int) × GErr)) (v : Value) (M' : IM) (H' : HL) => match p_ with | (r0, r1) => ∃ vz0 cz0, (.tuple #[vz0, (GV r1)]) = v ∧ H' = [cz0] ∧ OwnS (Kd.int .u8) M' vz0 r0 cz0
theorem f_record_Put_ok (a0 : (List Int)) (a1 : T_api_Record) (M : IM) (v0 v1_14 v1_15 v1_16 v1_17 : Value) (c0 : Chunk) (h0 : OwnS (Kd.int .u8) M v0 a0 c0) (h1_14 : RS (Kd.int .i64) M v1_14 a1.Ids) (h1_15 : RS (Kd.int .i64) M v1_15 a1.Isr) (h1_16 : RS (Kd.int .i64) M v1_16 a1.Add) (h1_17 : RS (Kd.int .i64) M v1_17 a1.Drop) (res : ((List Int) × GErr)) (h : f_record_Put a0 a1 = some res) :
    Tri Tryz.prog 67 #[v0, (a58_ a1 v1_14 v1_15 v1_16 v1_17)] M [c0] (f_record_Put_post a0 a1 v0 v1_14 v1_15 v1_16 v1_17 res) := by
 unfold f_record_Put at h
 refine Te Tryz.func67 rfl rfl ?_
 intro F ρ hρ
 refine Sr (We (EO.box (cs := #[v0]) ((congrArg Value.cells (asE v0 (hρ 0))).trans h0.cells)) rfl ?_)
 rintro _ _ _ - ⟨rfl, g21, rfl, rfl⟩
 refine We (EO.box (cs := (l58 a1 v1_14 v1_15 v1_16 v1_17).toArray) (congrArg Value.cells (asE (a58_ a1 v1_14 v1_15 v1_16 v1_17) (hρ 1)))) rfl ?_
 rintro _ _ _ - ⟨rfl, g22, rfl, rfl⟩
 refine qa Zs (qa (GV GErr.nil) (Nt (Cs (Sr (qu (a58_ a1 v1_14 v1_15 v1_16 v1_17) (La (cs := (l58 a1 v1_14 v1_15 v1_16 v1_17)) 0 ag58 sz58 rfl rfl rfl) ?_)))))
 obtain ⟨r23, hr24, h⟩ := bnd h
 refine We (Ca co77 (f_record_Check_ok a1 _ _ _ _ _ h1_14 h1_15 h1_16 h1_17 r23 hr24) (args1 rfl)) rfl ?_
 rintro _ M25 _ hle26 ⟨_, ⟨rfl, rfl⟩, rfl⟩
 refine WL.a0 (qa (GV r23) (Ns (qm (GV r23) (qu (Bv (!r23.isNil)) (PO.errNotNil Tryz.underlying31 rfl) (Nt (Cd (b := !r23.isNil) rfl (fun hb28 => ?_) (fun hb28 => ?_)))))))
 have h := ite_t hb28 h
 refine Sr (qm (GV r23) (qa Zs (qa (GV r23) (Nt (Cr (Tr (WQ.e0 (Qa (Dr (Qa (Dr ?_)))))))))))
 exact Qa (Dr (Rf h [[]] rfl (results2 rfl rfl rfl) hle26 ⟨Zs, [], rfl, rfl, (OwnS.nil _ _)⟩))
 have h := ite_f hb28 h
 refine Ck (Tc (Sr (qu (pt g22 0) (Fa fo58_0 rfl rfl) (qu (Iv a1.Kind) (Lb 0 pl3 rfl rfl rfl) ?_))))
 obtain ⟨r30, hr31, h⟩ := bnd h
 refine We (Ca co93 (f_record_about_ok a1.Kind _ r30 hr31) (args1 rfl)) rfl ?_
 rintro _ M32 _ hle33 ⟨_, ⟨rfl, rfl⟩, rfl⟩
 refine WL.a0 (We (Al ze3 rfl) rfl ?_)
 rintro _ _ _ - ⟨rfl, g35, rfl, rfl⟩
 refine We (Es (Iv r30) [(Iv r30)] rfl sz3 rfl rfl rfl rfl rfl rfl) rfl ?_
 rintro _ _ _ - ⟨rfl, rfl⟩
 refine Ns (qu v0 (Lb 2 pl23 rfl rfl rfl) (qu (pt g22 0) (Fa fo58_0 rfl rfl) (qu (Iv a1.Kind) (Lb 1 pl3 rfl rfl rfl) (qu (Yv (IntKind.u8.wrap a1.Kind)) (PO.conv us3 Tryz.underlying5 rfl) (We (EO.buildSliceL (cl := [(Yv (IntKind.u8.wrap a1.Kind))]) Tryz.underlying23 iz5 rfl (Pc (Yv (IntKind.u8.wrap a1.Kind)) rfl rfl Pz) rfl) rfl ?_)))))
 rintro _ _ _ - ⟨rfl, g36, rfl, rfl⟩
 have h38 : OwnS (Kd.int .u8) M32 (.slice (some ⟨g36, 0, none⟩) 1 1) [IntKind.u8.wrap a1.Kind] [(g36, .cells #[(Yv (IntKind.u8.wrap a1.Kind))] 5 (0, 0))] := OwnS.rows (css := [[(Yv (IntKind.u8.wrap a1.Kind))]]) (Rows.cons rfl Rows.nil) rfl rfl
 obtain ⟨hg42, h⟩ := grd_i h
 refine WL.f4 ?_
 have h0 := h0.mono (hle26.trans hle33)
 refine We (EO.append (dd := (Kd.int .u8)) (xs := a0) (ys := [IntKind.u8.wrap a1.Kind]) Tryz.underlying23 Tryz.underlying23 in5 rfl (appB (by decide) hg42) (by decide) rfl rfl h0 (h38.src 1 rfl)) rfl ?_
 rintro v41 _ _ - ⟨rfl, c39, rfl, h40⟩
 refine WL.f4 (We (Es v41 [v41] h40.cells sz23 rfl rfl (Ow h40) rfl rfl rfl) rfl ?_)
 rintro _ _ _ - ⟨rfl, rfl⟩
 refine Ns (qu (.func (.func 94) #[] #[(pt g35 0), (pt g21 0)]) (PO.makeFunc2 (args0) (args2 (show ev _ _ = (pt g35 0) from rfl) (show ev _ _ = (pt g21 0) from rfl))) (qa (.func (.func 94) #[] #[(pt g35 0), (pt g21 0)]) (Ns (qm (.func (.func 94) #[] #[(pt g35 0), (pt g21 0)]) (qu (pt g22 1) (Fa fo58_1 rfl rfl) (qu (Iv a1.Broker) (Lb 4 pl3 rfl rfl rfl) ?_))))))
 obtain ⟨r43, hr44, h⟩ := bnd h
 refine WL.f1 (WL.f1 (WL.f3 (We (EO.callV3 (first := #[]) (cap := #[(pt g35 0), (pt g21 0)]) co94 rfl (f_record_Put_1_ok (1 : Int) a1.Broker r30 (a0 ++ [IntKind.u8.wrap a1.Kind]) _ _ _ _ _ h40 r43 hr44) (argsV2 rfl rfl rfl)) rfl ?_)))
 rintro _ M45 _ hle46 ⟨_, ⟨v47, c49, rfl, rfl, h48⟩, rfl⟩
 have L46 := (hle26.trans hle33).trans hle46
 refine WL.a3 (Ns (qm (.func (.func 94) #[] #[(pt g35 0), (pt g21 0)]) (qu (pt g22 2) (Fa fo58_2 rfl rfl) (qu (Iv a1.Epoch) (Lb 4 pl3 rfl rfl rfl) ?_))))
 obtain ⟨r50, hr51, h⟩ := bnd h
 refine Wb (Wb (Wb (We (EO.callV3 (first := #[]) (cap := #[(pt g35 0), (pt g21 0)]) co94 rfl (f_record_Put_1_ok (2 : Int) a1.Epoch r30 r43 _ _ _ _ _ h48 r50 hr51) (argsV2 rfl rfl rfl)) rfl ?_)))
 rintro _ M52 _ hle53 ⟨_, ⟨v54, c56, rfl, rfl, h55⟩, rfl⟩
 have L53 := L46.trans hle53
 refine WL.a3 (Ns (qm (.func (.func 94) #[] #[(pt g35 0), (pt g21 0)]) (qu (pt g22 3) (Fa fo58_3 rfl rfl) (qu (Iv a1.Topic) (Lb 4 pl3 rfl rfl rfl) ?_))))
 obtain ⟨r57, hr58, h⟩ := bnd h
 refine Wb (Wb (Wb (We (EO.callV3 (first := #[]) (cap := #[(pt g35 0), (pt g21 0)]) co94 rfl (f_record_Put_1_ok (4 : Int) a1.Topic r30 r50 _ _ _ _ _ h55 r57 hr58) (argsV2 rfl rfl rfl)) rfl ?_)))
 rintro _ M59 _ hle60 ⟨_, ⟨v61, c63, rfl, rfl, h62⟩, rfl⟩
 have L60 := L53.trans hle60
 refine WL.a3 (Ns (qm (.func (.func 94) #[] #[(pt g35 0), (pt g21 0)]) (qu (pt g22 4) (Fa fo58_4 rfl rfl) (qu (Iv a1.Part) (Lb 4 pl3 rfl rfl rfl) ?_))))
 obtain ⟨r64, hr65, h⟩ := bnd h
 refine Wb (Wb (Wb (We (EO.callV3 (first := #[]) (cap := #[(pt g35 0), (pt g21 0)]) co94 rfl (f_record_Put_1_ok (8 : Int) a1.Part r30 r57 _ _ _ _ _ h62 r64 hr65) (argsV2 rfl rfl rfl)) rfl ?_)))
 rintro _ M66 _ hle67 ⟨_, ⟨v68, c70, rfl, rfl, h69⟩, rfl⟩
 have L67 := L60.trans hle67
 refine WL.a3 (Ns (qm (.func (.func 94) #[] #[(pt g35 0), (pt g21 0)]) (qu (pt g22 5) (Fa fo58_5 rfl rfl) (qu (Iv a1.Leader) (Lb 4 pl3 rfl rfl rfl) ?_))))
 obtain ⟨r71, hr72, h⟩ := bnd h
 refine Wb (Wb (Wb (We (EO.callV3 (first := #[]) (cap := #[(pt g35 0), (pt g21 0)]) co94 rfl (f_record_Put_1_ok (16 : Int) a1.Leader r30 r64 _ _ _ _ _ h69 r71 hr72) (argsV2 rfl rfl rfl)) rfl ?_)))
 rintro _ M73 _ hle74 ⟨_, ⟨v75, c77, rfl, rfl, h76⟩, rfl⟩
 have L74 := L67.trans hle74
 refine WL.a3 (Ns (qm (.func (.func 94) #[] #[(pt g35 0), (pt g21 0)]) (qu (pt g22 6) (Fa fo58_6 rfl rfl) (qu (Iv a1.Client) (Lb 4 pl3 rfl rfl rfl) ?_))))
 obtain ⟨r78, hr79, h⟩ := bnd h
 refine Wb (Wb (Wb (We (EO.callV3 (first := #[]) (cap := #[(pt g35 0), (pt g21 0)]) co94 rfl (f_record_Put_1_ok (32 : Int) a1.Client r30 r71 _ _ _ _ _ h76 r78 hr79) (argsV2 rfl rfl rfl)) rfl ?_)))
 rintro _ M80 _ hle81 ⟨_, ⟨v82, c84, rfl, rfl, h83⟩, rfl⟩
 have L81 := L74.trans hle81
 refine WL.a3 (Ns (qm (.func (.func 94) #[] #[(pt g35 0), (pt g21 0)]) (qu (pt g22 7) (Fa fo58_7 rfl rfl) (qu (Iv a1.Serial) (Lb 4 pl3 rfl rfl rfl) ?_))))
 obtain ⟨r85, hr86, h⟩ := bnd h
 refine Wb (Wb (Wb (We (EO.callV3 (first := #[]) (cap := #[(pt g35 0), (pt g21 0)]) co94 rfl (f_record_Put_1_ok (32 : Int) a1.Serial r30 r78 _ _ _ _ _ h83 r85 hr86) (argsV2 rfl rfl rfl)) rfl ?_)))
 rintro _ M87 _ hle88 ⟨_, ⟨v89, c91, rfl, rfl, h90⟩, rfl⟩
 have L88 := L81.trans hle88
 refine WL.a3 (Ns (qm (.func (.func 94) #[] #[(pt g35 0), (pt g21 0)]) (qu (pt g22 8) (Fa fo58_8 rfl rfl) (qu (Iv a1.Code) (Lb 4 pl3 rfl rfl rfl) ?_))))
 obtain ⟨r92, hr93, h⟩ := bnd h
 refine Wb (Wb (Wb (We (EO.callV3 (first := #[]) (cap := #[(pt g35 0), (pt g21 0)]) co94 rfl (f_record_Put_1_ok (32 : Int) a1.Code r30 r85 _ _ _ _ _ h90 r92 hr93) (argsV2 rfl rfl rfl)) rfl ?_)))
 rintro _ M94 _ hle95 ⟨_, ⟨v96, c98, rfl, rfl, h97⟩, rfl⟩
 have L95 := L88.trans hle95
 refine WL.a3 (Nt ?_)
 obtain ⟨x99, hj100, h⟩ := bnd h
 refine Jf (fun (x99 : (List Int)) ρ' M' H' => ∃ vx99 cx99, M94.le M' ∧ [(g35, .cells #[(Iv r30)] 3 (0, 0))] :: [(g21, .cells #[vx99] 23 (0, 0))] :: [(g22, .cells (l58 a1 v1_14 v1_15 v1_16 v1_17).toArray 58 (0, 0))] :: cx99 :: F = H' ∧ ρ' 2 = (pt g21 0) ∧ ρ' 3 = (pt g22 0) ∧ ρ' 7 = (pt g35 0) ∧ OwnS (Kd.int .u8) M' vx99 x99 cx99) x99 ?_ ?_
 have h := hj100
 refine Sr (qu (Iv r30) (Lb 0 pl3 rfl rfl rfl) (qu (Iv (andI .i64 r30 (64 : Int))) (PO.and rfl rfl) (qu (Bv (decide ((andI .i64 r30 (64 : Int)) ≠ 0))) (PO.neq rfl rfl) (Nt (Cd (b := decide ((andI .i64 r30 (64 : Int)) ≠ 0)) rfl (fun hb101 => ?_) (fun hb101 => ?_))))))
 have h := ite_t hb101 h
 refine Cg (qu v96 (Lb 1 pl23 rfl rfl rfl) (qu (pt g22 9) (Fa fo58_9 rfl rfl) (qu (Bv a1.Flag) (Lb 4 pl4 rfl rfl rfl) ?_)))
 obtain ⟨r102, hr103, h⟩ := bnd h
 refine Wb (We (Cb co26 (f_wire_Flag_ok r92 a1.Flag _ _ _ h97 r102 hr103) (args2 rfl rfl)) rfl ?_)
 rintro _ M104 _ hle105 ⟨_, ⟨vq106, cq106, rfl, rfl, hq106⟩, rfl⟩
 refine WL.a1 (Wb (We (Es vq106 [vq106] hq106.cells sz23 rfl rfl (Ow hq106) rfl rfl rfl) rfl ?_))
 rintro _ _ _ - ⟨rfl, rfl⟩
 refine Wz (WQ.f3 (Dr (Qa (WQ.f3 (Qb (WQ.f3 ?_))))))
 obtain rfl := oi h
 exact Tj ⟨vq106, cq106, hle105, rfl, rfl, rfl, rfl, hq106⟩
 have h := ite_f hb101 h
 refine Ck (WQ.f3 (Dr (Qb (WQ.f3 (WQ.f3 (WQ.f3 ?_))))))
 obtain rfl := oi h
 exact Tj ⟨v96, c98, lr, rfl, rfl, rfl, rfl, h97⟩
 rintro ρ100 M100 H100 ⟨vx99, cx99, hle100, rfl, hs100_2, hs100_3, hs100_7, hx99⟩
 have L100 := L95.trans hle100
 refine Sr (qu (.func (.func 95) #[] #[(pt g35 0), (pt g21 0)]) (PO.makeFunc2 (args0) (args2 (asE (Value.pointer (some ⟨g35, 0, none⟩)) hs100_7) (asE (Value.pointer (some ⟨g21, 0, none⟩)) hs100_2))) (qa (.func (.func 95) #[] #[(pt g35 0), (pt g21 0)]) (Ns (qm (.func (.func 95) #[] #[(pt g35 0), (pt g21 0)]) (qu (pt g22 10) (Fa fo58_10 hs100_3 rfl) (qu (Sv a1.Name) (Lb 2 pl9 rfl rfl rfl) ?_))))))
 obtain ⟨r107, hr108, h⟩ := bnd h
 refine WL.f3 (Wb (Wb (We (EO.callV3 (first := #[]) (cap := #[(pt g35 0), (pt g21 0)]) co95 rfl (f_record_Put_2_ok (128 : Int) a1.Name r30 x99 _ _ _ _ _ hx99 r107 hr108) (argsV2 rfl rfl rfl)) rfl ?_)))
 rintro _ M109 _ hle110 ⟨_, ⟨v111, c113, rfl, rfl, h112⟩, rfl⟩
 have L110 := L100.trans hle110
 refine WL.a3 (Ns (qm (.func (.func 95) #[] #[(pt g35 0), (pt g21 0)]) (qu (pt g22 11) (Fa fo58_11 hs100_3 rfl) (qu (Sv a1.Key) (Lb 3 pl9 rfl rfl rfl) ?_))))
 obtain ⟨r114, hr115, h⟩ := bnd h
 refine Wb (Wb (Wb (We (EO.callV3 (first := #[]) (cap := #[(pt g35 0), (pt g21 0)]) co95 rfl (f_record_Put_2_ok (256 : Int) a1.Key r30 r107 _ _ _ _ _ h112 r114 hr115) (argsV2 rfl rfl rfl)) rfl ?_)))
 rintro _ M116 _ hle117 ⟨_, ⟨v118, c120, rfl, rfl, h119⟩, rfl⟩
 have L117 := L110.trans hle117
 refine WL.a3 (Ns (qm (.func (.func 95) #[] #[(pt g35 0), (pt g21 0)]) (qu (pt g22 12) (Fa fo58_12 hs100_3 rfl) (qu (Sv a1.Value) (Lb 3 pl9 rfl rfl rfl) ?_))))
 obtain ⟨r121, hr122, h⟩ := bnd h
 refine Wb (Wb (Wb (We (EO.callV3 (first := #[]) (cap := #[(pt g35 0), (pt g21 0)]) co95 rfl (f_record_Put_2_ok (512 : Int) a1.Value r30 r114 _ _ _ _ _ h119 r121 hr122) (argsV2 rfl rfl rfl)) rfl ?_)))
 rintro _ M123 _ hle124 ⟨_, ⟨v125, c127, rfl, rfl, h126⟩, rfl⟩
 have L124 := L117.trans hle124
 refine WL.a3 (Ns (qm (.func (.func 95) #[] #[(pt g35 0), (pt g21 0)]) (qu (pt g22 13) (Fa fo58_13 hs100_3 rfl) (qu (Sv a1.Rack) (Lb 3 pl9 rfl rfl rfl) ?_))))
 obtain ⟨r128, hr129, h⟩ := bnd h
 refine Wb (Wb (Wb (We (EO.callV3 (first := #[]) (cap := #[(pt g35 0), (pt g21 0)]) co95 rfl (f_record_Put_2_ok (1024 : Int) a1.Rack r30 r121 _ _ _ _ _ h126 r128 hr129) (argsV2 rfl rfl rfl)) rfl ?_)))
 rintro _ M130 _ hle131 ⟨_, ⟨v132, c134, rfl, rfl, h133⟩, rfl⟩
 have L131 := L124.trans hle131
 refine WL.a3 (Ns (qu (.func (.func 96) #[] #[(pt g35 0), (pt g21 0)]) (PO.makeFunc2 (args0) (args2 (asE (Value.pointer (some ⟨g35, 0, none⟩)) hs100_7) (asE (Value.pointer (some ⟨g21, 0, none⟩)) hs100_2))) (qa (.func (.func 96) #[] #[(pt g35 0), (pt g21 0)]) (Ns (qm (.func (.func 96) #[] #[(pt g35 0), (pt g21 0)]) (qu (pt g22 14) (Fa fo58_14 hs100_3 rfl) (qu v1_14 (Lb 3 pl56 rfl rfl rfl) ?_)))))))
 obtain ⟨r135, hr136, h⟩ := bnd h
 refine Wb (Wb (Wb ?_))
 have h1_14 := h1_14.mono L131
 refine We (EO.callV3 (first := #[]) (cap := #[(pt g35 0), (pt g21 0)]) co96 rfl (f_record_Put_3_ok (2048 : Int) a1.Ids r30 r128 _ _ _ _ _ _ h1_14 h133 r135 hr136) (argsV2 rfl rfl rfl)) rfl ?_
 rintro _ M137 _ hle138 ⟨_, ⟨v139, c141, rfl, rfl, h140⟩, rfl⟩
 have L138 := L131.trans hle138
 refine WL.a3 (Ns (qm (.func (.func 96) #[] #[(pt g35 0), (pt g21 0)]) (qu (pt g22 15) (Fa fo58_15 hs100_3 rfl) (qu v1_15 (Lb 3 pl56 rfl rfl rfl) ?_))))
 obtain ⟨r142, hr143, h⟩ := bnd h
 refine Wb (Wb (Wb ?_))
 have h1_15 := h1_15.mono L138
 refine We (EO.callV3 (first := #[]) (cap := #[(pt g35 0), (pt g21 0)]) co96 rfl (f_record_Put_3_ok (4096 : Int) a1.Isr r30 r135 _ _ _ _ _ _ h1_15 h140 r142 hr143) (argsV2 rfl rfl rfl)) rfl ?_
 rintro _ M144 _ hle145 ⟨_, ⟨v146, c148, rfl, rfl, h147⟩, rfl⟩
 have L145 := L138.trans hle145
 refine WL.a3 (Ns (qm (.func (.func 96) #[] #[(pt g35 0), (pt g21 0)]) (qu (pt g22 16) (Fa fo58_16 hs100_3 rfl) (qu v1_16 (Lb 3 pl56 rfl rfl rfl) ?_))))
 obtain ⟨r149, hr150, h⟩ := bnd h
 refine Wb (Wb (Wb ?_))
 have h1_16 := h1_16.mono L145
 refine We (EO.callV3 (first := #[]) (cap := #[(pt g35 0), (pt g21 0)]) co96 rfl (f_record_Put_3_ok (8192 : Int) a1.Add r30 r142 _ _ _ _ _ _ h1_16 h147 r149 hr150) (argsV2 rfl rfl rfl)) rfl ?_
 rintro _ M151 _ hle152 ⟨_, ⟨v153, c155, rfl, rfl, h154⟩, rfl⟩
 refine WL.a3 (Ns (qm (.func (.func 96) #[] #[(pt g35 0), (pt g21 0)]) (qu (pt g22 17) (Fa fo58_17 hs100_3 rfl) (qu v1_17 (Lb 3 pl56 rfl rfl rfl) ?_))))
 obtain ⟨r156, hr157, h⟩ := bnd h
 refine Wb (Wb (Wb ?_))
 have h1_17 := h1_17.mono (L145.trans hle152)
 refine We (EO.callV3 (first := #[]) (cap := #[(pt g35 0), (pt g21 0)]) co96 rfl (f_record_Put_3_ok (8192 : Int) a1.Drop r30 r149 _ _ _ _ _ _ h1_17 h154 r156 hr157) (argsV2 rfl rfl rfl)) rfl ?_
 rintro _ M158 _ hle159 ⟨_, ⟨v160, c162, rfl, rfl, h161⟩, rfl⟩
 exact WL.a3 (Ns (qu v160 (Lb 1 pl23 hs100_2 rfl rfl) (qa v160 (qa (GV GErr.nil) (Nt (Cr (Dr (Dr (Qa (Dr (Rf h [c162] rfl (results2 rfl rfl rfl) ((L145.trans hle152).trans hle159) ⟨v160, c162, rfl, rfl, h161⟩)))))))))))


end Go.Proofs.YtkflneabcannnaaGreatDoor.G
