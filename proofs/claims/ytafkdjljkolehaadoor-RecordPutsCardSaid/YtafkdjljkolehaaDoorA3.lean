/- Go functions: what they come to, and that they do. Printed by a program of the session (gen). -/
import Derived.Test.YtafkdjljkolehaaDoorAF
import Derived.Test.YtafkdjljkolehaaDoorA2
import Derived.Test.YtafkdjljkolehaaDoorKConv
set_option linter.unusedVariables false
set_option linter.unusedSimpArgs false
set_option maxHeartbeats 8000000
set_option maxRecDepth 100000
namespace Go.Proofs.YtafkdjljkolehaaDoor.G
open Go Go.KK

noncomputable def f_wire_Num (a0 : (List Int)) (a1 : Int) : Option (List Int) :=
  (if (decide ((if (4611686018427387903 : Int) < a1 then (4611686018427387903 : Int) else a1) < (64 : Int))) = true then (grd (a0.length + [IntKind.u8.wrap (if (4611686018427387903 : Int) < a1 then (4611686018427387903 : Int) else a1)].length ≤ 274877906944) (some (a0 ++ [IntKind.u8.wrap (if (4611686018427387903 : Int) < a1 then (4611686018427387903 : Int) else a1)]))) else (if (decide ((if (4611686018427387903 : Int) < a1 then (4611686018427387903 : Int) else a1) < (16384 : Int))) = true then (grd (a0.length + [orI .u8 (64 : Int) (IntKind.u8.wrap (shrI .u64 (if (4611686018427387903 : Int) < a1 then (4611686018427387903 : Int) else a1) (8 : Int))), IntKind.u8.wrap (if (4611686018427387903 : Int) < a1 then (4611686018427387903 : Int) else a1)].length ≤ 274877906944) (some (a0 ++ [orI .u8 (64 : Int) (IntKind.u8.wrap (shrI .u64 (if (4611686018427387903 : Int) < a1 then (4611686018427387903 : Int) else a1) (8 : Int))), IntKind.u8.wrap (if (4611686018427387903 : Int) < a1 then (4611686018427387903 : Int) else a1)]))) else (if (decide ((if (4611686018427387903 : Int) < a1 then (4611686018427387903 : Int) else a1) < (1073741824 : Int))) = true then (grd (a0.length + [orI .u8 (128 : Int) (IntKind.u8.wrap (shrI .u64 (if (4611686018427387903 : Int) < a1 then (4611686018427387903 : Int) else a1) (24 : Int))), IntKind.u8.wrap (shrI .u64 (if (4611686018427387903 : Int) < a1 then (4611686018427387903 : Int) else a1) (16 : Int)), IntKind.u8.wrap (shrI .u64 (if (4611686018427387903 : Int) < a1 then (4611686018427387903 : Int) else a1) (8 : Int)), IntKind.u8.wrap (if (4611686018427387903 : Int) < a1 then (4611686018427387903 : Int) else a1)].length ≤ 274877906944) (some (a0 ++ [orI .u8 (128 : Int) (IntKind.u8.wrap (shrI .u64 (if (4611686018427387903 : Int) < a1 then (4611686018427387903 : Int) else a1) (24 : Int))), IntKind.u8.wrap (shrI .u64 (if (4611686018427387903 : Int) < a1 then (4611686018427387903 : Int) else a1) (16 : Int)), IntKind.u8.wrap (shrI .u64 (if (4611686018427387903 : Int) < a1 then (4611686018427387903 : Int) else a1) (8 : Int)), IntKind.u8.wrap (if (4611686018427387903 : Int) < a1 then (4611686018427387903 : Int) else a1)]))) else (grd (a0.length + [orI .u8 (192 : Int) (IntKind.u8.wrap (shrI .u64 (if (4611686018427387903 : Int) < a1 then (4611686018427387903 : Int) else a1) (56 : Int))), IntKind.u8.wrap (shrI .u64 (if (4611686018427387903 : Int) < a1 then (4611686018427387903 : Int) else a1) (48 : Int)), IntKind.u8.wrap (shrI .u64 (if (4611686018427387903 : Int) < a1 then (4611686018427387903 : Int) else a1) (40 : Int)), IntKind.u8.wrap (shrI .u64 (if (4611686018427387903 : Int) < a1 then (4611686018427387903 : Int) else a1) (32 : Int)), IntKind.u8.wrap (shrI .u64 (if (4611686018427387903 : Int) < a1 then (4611686018427387903 : Int) else a1) (24 : Int)), IntKind.u8.wrap (shrI .u64 (if (4611686018427387903 : Int) < a1 then (4611686018427387903 : Int) else a1) (16 : Int)), IntKind.u8.wrap (shrI .u64 (if (4611686018427387903 : Int) < a1 then (4611686018427387903 : Int) else a1) (8 : Int)), IntKind.u8.wrap (if (4611686018427387903 : Int) < a1 then (4611686018427387903 : Int) else a1)].length ≤ 274877906944) (some (a0 ++ [orI .u8 (192 : Int) (IntKind.u8.wrap (shrI .u64 (if (4611686018427387903 : Int) < a1 then (4611686018427387903 : Int) else a1) (56 : Int))), IntKind.u8.wrap (shrI .u64 (if (4611686018427387903 : Int) < a1 then (4611686018427387903 : Int) else a1) (48 : Int)), IntKind.u8.wrap (shrI .u64 (if (4611686018427387903 : Int) < a1 then (4611686018427387903 : Int) else a1) (40 : Int)), IntKind.u8.wrap (shrI .u64 (if (4611686018427387903 : Int) < a1 then (4611686018427387903 : Int) else a1) (32 : Int)), IntKind.u8.wrap (shrI .u64 (if (4611686018427387903 : Int) < a1 then (4611686018427387903 : Int) else a1) (24 : Int)), IntKind.u8.wrap (shrI .u64 (if (4611686018427387903 : Int) < a1 then (4611686018427387903 : Int) else a1) (16 : Int)), IntKind.u8.wrap (shrI .u64 (if (4611686018427387903 : Int) < a1 then (4611686018427387903 : Int) else a1) (8 : Int)), IntKind.u8.wrap (if (4611686018427387903 : Int) < a1 then (4611686018427387903 : Int) else a1)]))))))
def f_wire_Num_post (a0 : (List Int)) (a1 : Int) (v0 : Value) : (List Int) → Value → IM → HL → Prop :=
  fun (r0 : (List Int)) (v : Value) (M' : IM) (H' : HL) => ∃ vz0 cz0, vz0 = v ∧ H' = [cz0] ∧ OwnS (Kd.int .u8) M' vz0 r0 cz0
theorem f_wire_Num_ok (a0 : (List Int)) (a1 : Int) (M : IM) (v0 : Value) (c0 : Chunk) (h0 : OwnS (Kd.int .u8) M v0 a0 c0) (res : (List Int)) (h : f_wire_Num a0 a1 = some res) :
    Tri Tryd.prog 67 #[v0, (.int .u64 a1)] M [c0] (f_wire_Num_post a0 a1 v0 res) := by
 unfold f_wire_Num at h
 refine Tri.enter (fn := Tryd.f67) Tryd.func67 rfl (Nat.le_of_ble_eq_true rfl) ?_
 intro F ρ hρ
 refine Sr ?_
 refine Pa (.slice none 0 0) rfl rfl ?_
 refine Ns ?_
 refine Pm (.int .u64 a1) (hρ 1) rfl ?_
 refine Pu (.int .u64 (if (4611686018427387903 : Int) < a1 then (4611686018427387903 : Int) else a1)) (PO.min rfl rfl) rfl ?_
 refine Pa (.int .u64 (if (4611686018427387903 : Int) < a1 then (4611686018427387903 : Int) else a1)) rfl rfl ?_
 refine Nt ?_
 refine WC.seq ?_
 refine WC.block ?_
 refine Sr ?_
 refine Pm (.int .u64 (if (4611686018427387903 : Int) < a1 then (4611686018427387903 : Int) else a1)) rfl rfl ?_
 refine Pu (.bool (decide ((if (4611686018427387903 : Int) < a1 then (4611686018427387903 : Int) else a1) < 64))) (PO.lss rfl rfl) rfl ?_
 refine Pa (.bool (decide ((if (4611686018427387903 : Int) < a1 then (4611686018427387903 : Int) else a1) < 64))) rfl rfl ?_
 refine Nt ?_
 refine WC.cond (b := decide ((if (4611686018427387903 : Int) < a1 then (4611686018427387903 : Int) else a1) < 64)) rfl (fun hb21 => ?_) (fun hb21 => ?_)
 have h := ite_t hb21 h
 refine Sr ?_
 refine Pm v0 (hρ 0) rfl ?_
 refine Pm (.int .u64 (if (4611686018427387903 : Int) < a1 then (4611686018427387903 : Int) else a1)) rfl rfl ?_
 refine Pu (.int .u8 (IntKind.u8.wrap (if (4611686018427387903 : Int) < a1 then (4611686018427387903 : Int) else a1))) (PO.conv us93 Tryd.underlying5 rfl) rfl ?_
 refine WL.eff (EO.buildSliceL (cl := [(.int .u8 (IntKind.u8.wrap (if (4611686018427387903 : Int) < a1 then (4611686018427387903 : Int) else a1)))]) Tryd.underlying28 iz5 rfl (Parts.cons (congrArg Value.cells (show ev _ _ = (.int .u8 (IntKind.u8.wrap (if (4611686018427387903 : Int) < a1 then (4611686018427387903 : Int) else a1))) from rfl)) Parts.nil) rfl) rfl ?_
 rintro _ _ _ - ⟨rfl, g22, rfl, rfl⟩
 have h24 : OwnS (Kd.int .u8) M (.slice (some ⟨g22, 0, none⟩) 1 1) [IntKind.u8.wrap (if (4611686018427387903 : Int) < a1 then (4611686018427387903 : Int) else a1)] [(g22, .cells #[(.int .u8 (IntKind.u8.wrap (if (4611686018427387903 : Int) < a1 then (4611686018427387903 : Int) else a1)))] 5 (0, 0))] := OwnS.rows (css := [[(.int .u8 (IntKind.u8.wrap (if (4611686018427387903 : Int) < a1 then (4611686018427387903 : Int) else a1)))]]) (Rows.cons rfl Rows.nil) rfl rfl
 obtain ⟨hg28, h⟩ := grd_i h
 refine WL.f1 ?_
 refine WL.eff (EO.append (dd := (Kd.int .u8)) (xs := a0) (ys := [IntKind.u8.wrap (if (4611686018427387903 : Int) < a1 then (4611686018427387903 : Int) else a1)]) Tryd.underlying28 Tryd.underlying28 in5 rfl (appB (by decide) hg28) (by decide) rfl rfl h0 (h24.src 1 rfl)) rfl ?_
 rintro v27 _ _ - ⟨rfl, c25, rfl, h26⟩
 refine Pa v27 rfl rfl ?_
 refine Nt ?_
 refine WC.ret ?_
 refine WQ.blockR ?_
 refine WQ.thenR ?_
 refine WQ.f1 ?_
 refine WQ.drop ?_
 exact WQ.returnsF h [c25] rfl (results1 rfl rfl) (IM.le.refl _) ⟨v27, c25, rfl, rfl, h26⟩
 have h := ite_f hb21 h
 refine Sr ?_
 refine Pm (.int .u64 (if (4611686018427387903 : Int) < a1 then (4611686018427387903 : Int) else a1)) rfl rfl ?_
 refine Pu (.bool (decide ((if (4611686018427387903 : Int) < a1 then (4611686018427387903 : Int) else a1) < 16384))) (PO.lss rfl rfl) rfl ?_
 refine Pa (.bool (decide ((if (4611686018427387903 : Int) < a1 then (4611686018427387903 : Int) else a1) < 16384))) rfl rfl ?_
 refine Nt ?_
 refine WC.cond (b := decide ((if (4611686018427387903 : Int) < a1 then (4611686018427387903 : Int) else a1) < 16384)) rfl (fun hb29 => ?_) (fun hb29 => ?_)
 have h := ite_t hb29 h
 refine Sr ?_
 refine Pm v0 (hρ 0) rfl ?_
 refine Pm (.int .u64 (if (4611686018427387903 : Int) < a1 then (4611686018427387903 : Int) else a1)) rfl rfl ?_
 refine Pu (.int .u64 (shrI .u64 (if (4611686018427387903 : Int) < a1 then (4611686018427387903 : Int) else a1) (8 : Int))) (PO.shr rfl rfl (by decide)) rfl ?_
 refine Pu (.int .u8 (IntKind.u8.wrap (shrI .u64 (if (4611686018427387903 : Int) < a1 then (4611686018427387903 : Int) else a1) (8 : Int)))) (PO.conv us93 Tryd.underlying5 rfl) rfl ?_
 refine Pu (.int .u8 (orI .u8 (64 : Int) (IntKind.u8.wrap (shrI .u64 (if (4611686018427387903 : Int) < a1 then (4611686018427387903 : Int) else a1) (8 : Int))))) (PO.or rfl rfl) rfl ?_
 refine Pm (.int .u64 (if (4611686018427387903 : Int) < a1 then (4611686018427387903 : Int) else a1)) rfl rfl ?_
 refine Pu (.int .u8 (IntKind.u8.wrap (if (4611686018427387903 : Int) < a1 then (4611686018427387903 : Int) else a1))) (PO.conv us93 Tryd.underlying5 rfl) rfl ?_
 refine WL.eff (EO.buildSliceL (cl := [(.int .u8 (orI .u8 (64 : Int) (IntKind.u8.wrap (shrI .u64 (if (4611686018427387903 : Int) < a1 then (4611686018427387903 : Int) else a1) (8 : Int))))), (.int .u8 (IntKind.u8.wrap (if (4611686018427387903 : Int) < a1 then (4611686018427387903 : Int) else a1)))]) Tryd.underlying28 iz5 rfl (Parts.cons (congrArg Value.cells (show ev _ _ = (.int .u8 (orI .u8 (64 : Int) (IntKind.u8.wrap (shrI .u64 (if (4611686018427387903 : Int) < a1 then (4611686018427387903 : Int) else a1) (8 : Int))))) from rfl)) (Parts.cons (congrArg Value.cells (show ev _ _ = (.int .u8 (IntKind.u8.wrap (if (4611686018427387903 : Int) < a1 then (4611686018427387903 : Int) else a1))) from rfl)) Parts.nil)) rfl) rfl ?_
 rintro _ _ _ - ⟨rfl, g30, rfl, rfl⟩
 have h32 : OwnS (Kd.int .u8) M (.slice (some ⟨g30, 0, none⟩) 2 2) [orI .u8 (64 : Int) (IntKind.u8.wrap (shrI .u64 (if (4611686018427387903 : Int) < a1 then (4611686018427387903 : Int) else a1) (8 : Int))), IntKind.u8.wrap (if (4611686018427387903 : Int) < a1 then (4611686018427387903 : Int) else a1)] [(g30, .cells #[(.int .u8 (orI .u8 (64 : Int) (IntKind.u8.wrap (shrI .u64 (if (4611686018427387903 : Int) < a1 then (4611686018427387903 : Int) else a1) (8 : Int))))), (.int .u8 (IntKind.u8.wrap (if (4611686018427387903 : Int) < a1 then (4611686018427387903 : Int) else a1)))] 5 (0, 0))] := OwnS.rows (css := [[(.int .u8 (orI .u8 (64 : Int) (IntKind.u8.wrap (shrI .u64 (if (4611686018427387903 : Int) < a1 then (4611686018427387903 : Int) else a1) (8 : Int)))))], [(.int .u8 (IntKind.u8.wrap (if (4611686018427387903 : Int) < a1 then (4611686018427387903 : Int) else a1)))]]) (Rows.cons rfl (Rows.cons rfl Rows.nil)) rfl rfl
 obtain ⟨hg36, h⟩ := grd_i h
 refine WL.f1 ?_
 refine WL.eff (EO.append (dd := (Kd.int .u8)) (xs := a0) (ys := [orI .u8 (64 : Int) (IntKind.u8.wrap (shrI .u64 (if (4611686018427387903 : Int) < a1 then (4611686018427387903 : Int) else a1) (8 : Int))), IntKind.u8.wrap (if (4611686018427387903 : Int) < a1 then (4611686018427387903 : Int) else a1)]) Tryd.underlying28 Tryd.underlying28 in5 rfl (appB (by decide) hg36) (by decide) rfl rfl h0 (h32.src 1 rfl)) rfl ?_
 rintro v35 _ _ - ⟨rfl, c33, rfl, h34⟩
 refine Pa v35 rfl rfl ?_
 refine Nt ?_
 refine WC.ret ?_
 refine WQ.blockR ?_
 refine WQ.thenR ?_
 refine WQ.f1 ?_
 refine WQ.drop ?_
 exact WQ.returnsF h [c33] rfl (results1 rfl rfl) (IM.le.refl _) ⟨v35, c33, rfl, rfl, h34⟩
 have h := ite_f hb29 h
 refine Sr ?_
 refine Pm (.int .u64 (if (4611686018427387903 : Int) < a1 then (4611686018427387903 : Int) else a1)) rfl rfl ?_
 refine Pu (.bool (decide ((if (4611686018427387903 : Int) < a1 then (4611686018427387903 : Int) else a1) < 1073741824))) (PO.lss rfl rfl) rfl ?_
 refine Pa (.bool (decide ((if (4611686018427387903 : Int) < a1 then (4611686018427387903 : Int) else a1) < 1073741824))) rfl rfl ?_
 refine Nt ?_
 refine WC.cond (b := decide ((if (4611686018427387903 : Int) < a1 then (4611686018427387903 : Int) else a1) < 1073741824)) rfl (fun hb37 => ?_) (fun hb37 => ?_)
 have h := ite_t hb37 h
 refine Sr ?_
 refine Pm v0 (hρ 0) rfl ?_
 refine Pm (.int .u64 (if (4611686018427387903 : Int) < a1 then (4611686018427387903 : Int) else a1)) rfl rfl ?_
 refine Pu (.int .u64 (shrI .u64 (if (4611686018427387903 : Int) < a1 then (4611686018427387903 : Int) else a1) (24 : Int))) (PO.shr rfl rfl (by decide)) rfl ?_
 refine Pu (.int .u8 (IntKind.u8.wrap (shrI .u64 (if (4611686018427387903 : Int) < a1 then (4611686018427387903 : Int) else a1) (24 : Int)))) (PO.conv us93 Tryd.underlying5 rfl) rfl ?_
 refine Pu (.int .u8 (orI .u8 (128 : Int) (IntKind.u8.wrap (shrI .u64 (if (4611686018427387903 : Int) < a1 then (4611686018427387903 : Int) else a1) (24 : Int))))) (PO.or rfl rfl) rfl ?_
 refine Pm (.int .u64 (if (4611686018427387903 : Int) < a1 then (4611686018427387903 : Int) else a1)) rfl rfl ?_
 refine Pu (.int .u64 (shrI .u64 (if (4611686018427387903 : Int) < a1 then (4611686018427387903 : Int) else a1) (16 : Int))) (PO.shr rfl rfl (by decide)) rfl ?_
 refine Pu (.int .u8 (IntKind.u8.wrap (shrI .u64 (if (4611686018427387903 : Int) < a1 then (4611686018427387903 : Int) else a1) (16 : Int)))) (PO.conv us93 Tryd.underlying5 rfl) rfl ?_
 refine Pm (.int .u64 (if (4611686018427387903 : Int) < a1 then (4611686018427387903 : Int) else a1)) rfl rfl ?_
 refine Pu (.int .u64 (shrI .u64 (if (4611686018427387903 : Int) < a1 then (4611686018427387903 : Int) else a1) (8 : Int))) (PO.shr rfl rfl (by decide)) rfl ?_
 refine Pu (.int .u8 (IntKind.u8.wrap (shrI .u64 (if (4611686018427387903 : Int) < a1 then (4611686018427387903 : Int) else a1) (8 : Int)))) (PO.conv us93 Tryd.underlying5 rfl) rfl ?_
 refine Pm (.int .u64 (if (4611686018427387903 : Int) < a1 then (4611686018427387903 : Int) else a1)) rfl rfl ?_
 refine Pu (.int .u8 (IntKind.u8.wrap (if (4611686018427387903 : Int) < a1 then (4611686018427387903 : Int) else a1))) (PO.conv us93 Tryd.underlying5 rfl) rfl ?_
 refine WL.eff (EO.buildSliceL (cl := [(.int .u8 (orI .u8 (128 : Int) (IntKind.u8.wrap (shrI .u64 (if (4611686018427387903 : Int) < a1 then (4611686018427387903 : Int) else a1) (24 : Int))))), (.int .u8 (IntKind.u8.wrap (shrI .u64 (if (4611686018427387903 : Int) < a1 then (4611686018427387903 : Int) else a1) (16 : Int)))), (.int .u8 (IntKind.u8.wrap (shrI .u64 (if (4611686018427387903 : Int) < a1 then (4611686018427387903 : Int) else a1) (8 : Int)))), (.int .u8 (IntKind.u8.wrap (if (4611686018427387903 : Int) < a1 then (4611686018427387903 : Int) else a1)))]) Tryd.underlying28 iz5 rfl (Parts.cons (congrArg Value.cells (show ev _ _ = (.int .u8 (orI .u8 (128 : Int) (IntKind.u8.wrap (shrI .u64 (if (4611686018427387903 : Int) < a1 then (4611686018427387903 : Int) else a1) (24 : Int))))) from rfl)) (Parts.cons (congrArg Value.cells (show ev _ _ = (.int .u8 (IntKind.u8.wrap (shrI .u64 (if (4611686018427387903 : Int) < a1 then (4611686018427387903 : Int) else a1) (16 : Int)))) from rfl)) (Parts.cons (congrArg Value.cells (show ev _ _ = (.int .u8 (IntKind.u8.wrap (shrI .u64 (if (4611686018427387903 : Int) < a1 then (4611686018427387903 : Int) else a1) (8 : Int)))) from rfl)) (Parts.cons (congrArg Value.cells (show ev _ _ = (.int .u8 (IntKind.u8.wrap (if (4611686018427387903 : Int) < a1 then (4611686018427387903 : Int) else a1))) from rfl)) Parts.nil)))) rfl) rfl ?_
 rintro _ _ _ - ⟨rfl, g38, rfl, rfl⟩
 have h40 : OwnS (Kd.int .u8) M (.slice (some ⟨g38, 0, none⟩) 4 4) [orI .u8 (128 : Int) (IntKind.u8.wrap (shrI .u64 (if (4611686018427387903 : Int) < a1 then (4611686018427387903 : Int) else a1) (24 : Int))), IntKind.u8.wrap (shrI .u64 (if (4611686018427387903 : Int) < a1 then (4611686018427387903 : Int) else a1) (16 : Int)), IntKind.u8.wrap (shrI .u64 (if (4611686018427387903 : Int) < a1 then (4611686018427387903 : Int) else a1) (8 : Int)), IntKind.u8.wrap (if (4611686018427387903 : Int) < a1 then (4611686018427387903 : Int) else a1)] [(g38, .cells #[(.int .u8 (orI .u8 (128 : Int) (IntKind.u8.wrap (shrI .u64 (if (4611686018427387903 : Int) < a1 then (4611686018427387903 : Int) else a1) (24 : Int))))), (.int .u8 (IntKind.u8.wrap (shrI .u64 (if (4611686018427387903 : Int) < a1 then (4611686018427387903 : Int) else a1) (16 : Int)))), (.int .u8 (IntKind.u8.wrap (shrI .u64 (if (4611686018427387903 : Int) < a1 then (4611686018427387903 : Int) else a1) (8 : Int)))), (.int .u8 (IntKind.u8.wrap (if (4611686018427387903 : Int) < a1 then (4611686018427387903 : Int) else a1)))] 5 (0, 0))] := OwnS.rows (css := [[(.int .u8 (orI .u8 (128 : Int) (IntKind.u8.wrap (shrI .u64 (if (4611686018427387903 : Int) < a1 then (4611686018427387903 : Int) else a1) (24 : Int)))))], [(.int .u8 (IntKind.u8.wrap (shrI .u64 (if (4611686018427387903 : Int) < a1 then (4611686018427387903 : Int) else a1) (16 : Int))))], [(.int .u8 (IntKind.u8.wrap (shrI .u64 (if (4611686018427387903 : Int) < a1 then (4611686018427387903 : Int) else a1) (8 : Int))))], [(.int .u8 (IntKind.u8.wrap (if (4611686018427387903 : Int) < a1 then (4611686018427387903 : Int) else a1)))]]) (Rows.cons rfl (Rows.cons rfl (Rows.cons rfl (Rows.cons rfl Rows.nil)))) rfl rfl
 obtain ⟨hg44, h⟩ := grd_i h
 refine WL.f1 ?_
 refine WL.eff (EO.append (dd := (Kd.int .u8)) (xs := a0) (ys := [orI .u8 (128 : Int) (IntKind.u8.wrap (shrI .u64 (if (4611686018427387903 : Int) < a1 then (4611686018427387903 : Int) else a1) (24 : Int))), IntKind.u8.wrap (shrI .u64 (if (4611686018427387903 : Int) < a1 then (4611686018427387903 : Int) else a1) (16 : Int)), IntKind.u8.wrap (shrI .u64 (if (4611686018427387903 : Int) < a1 then (4611686018427387903 : Int) else a1) (8 : Int)), IntKind.u8.wrap (if (4611686018427387903 : Int) < a1 then (4611686018427387903 : Int) else a1)]) Tryd.underlying28 Tryd.underlying28 in5 rfl (appB (by decide) hg44) (by decide) rfl rfl h0 (h40.src 1 rfl)) rfl ?_
 rintro v43 _ _ - ⟨rfl, c41, rfl, h42⟩
 refine Pa v43 rfl rfl ?_
 refine Nt ?_
 refine WC.ret ?_
 refine WQ.blockR ?_
 refine WQ.thenR ?_
 refine WQ.f1 ?_
 refine WQ.drop ?_
 exact WQ.returnsF h [c41] rfl (results1 rfl rfl) (IM.le.refl _) ⟨v43, c41, rfl, rfl, h42⟩
 have h := ite_f hb37 h
 refine WC.skip ?_
 refine WQ.blockN ?_
 refine WQ.thenC ?_
 refine Sr ?_
 refine Pm v0 (hρ 0) rfl ?_
 refine Pm (.int .u64 (if (4611686018427387903 : Int) < a1 then (4611686018427387903 : Int) else a1)) rfl rfl ?_
 refine Pu (.int .u64 (shrI .u64 (if (4611686018427387903 : Int) < a1 then (4611686018427387903 : Int) else a1) (56 : Int))) (PO.shr rfl rfl (by decide)) rfl ?_
 refine Pu (.int .u8 (IntKind.u8.wrap (shrI .u64 (if (4611686018427387903 : Int) < a1 then (4611686018427387903 : Int) else a1) (56 : Int)))) (PO.conv us93 Tryd.underlying5 rfl) rfl ?_
 refine Pu (.int .u8 (orI .u8 (192 : Int) (IntKind.u8.wrap (shrI .u64 (if (4611686018427387903 : Int) < a1 then (4611686018427387903 : Int) else a1) (56 : Int))))) (PO.or rfl rfl) rfl ?_
 refine Pm (.int .u64 (if (4611686018427387903 : Int) < a1 then (4611686018427387903 : Int) else a1)) rfl rfl ?_
 refine Pu (.int .u64 (shrI .u64 (if (4611686018427387903 : Int) < a1 then (4611686018427387903 : Int) else a1) (48 : Int))) (PO.shr rfl rfl (by decide)) rfl ?_
 refine Pu (.int .u8 (IntKind.u8.wrap (shrI .u64 (if (4611686018427387903 : Int) < a1 then (4611686018427387903 : Int) else a1) (48 : Int)))) (PO.conv us93 Tryd.underlying5 rfl) rfl ?_
 refine Pm (.int .u64 (if (4611686018427387903 : Int) < a1 then (4611686018427387903 : Int) else a1)) rfl rfl ?_
 refine Pu (.int .u64 (shrI .u64 (if (4611686018427387903 : Int) < a1 then (4611686018427387903 : Int) else a1) (40 : Int))) (PO.shr rfl rfl (by decide)) rfl ?_
 refine Pu (.int .u8 (IntKind.u8.wrap (shrI .u64 (if (4611686018427387903 : Int) < a1 then (4611686018427387903 : Int) else a1) (40 : Int)))) (PO.conv us93 Tryd.underlying5 rfl) rfl ?_
 refine Pm (.int .u64 (if (4611686018427387903 : Int) < a1 then (4611686018427387903 : Int) else a1)) rfl rfl ?_
 refine Pu (.int .u64 (shrI .u64 (if (4611686018427387903 : Int) < a1 then (4611686018427387903 : Int) else a1) (32 : Int))) (PO.shr rfl rfl (by decide)) rfl ?_
 refine Pu (.int .u8 (IntKind.u8.wrap (shrI .u64 (if (4611686018427387903 : Int) < a1 then (4611686018427387903 : Int) else a1) (32 : Int)))) (PO.conv us93 Tryd.underlying5 rfl) rfl ?_
 refine Pm (.int .u64 (if (4611686018427387903 : Int) < a1 then (4611686018427387903 : Int) else a1)) rfl rfl ?_
 refine Pu (.int .u64 (shrI .u64 (if (4611686018427387903 : Int) < a1 then (4611686018427387903 : Int) else a1) (24 : Int))) (PO.shr rfl rfl (by decide)) rfl ?_
 refine Pu (.int .u8 (IntKind.u8.wrap (shrI .u64 (if (4611686018427387903 : Int) < a1 then (4611686018427387903 : Int) else a1) (24 : Int)))) (PO.conv us93 Tryd.underlying5 rfl) rfl ?_
 refine Pm (.int .u64 (if (4611686018427387903 : Int) < a1 then (4611686018427387903 : Int) else a1)) rfl rfl ?_
 refine Pu (.int .u64 (shrI .u64 (if (4611686018427387903 : Int) < a1 then (4611686018427387903 : Int) else a1) (16 : Int))) (PO.shr rfl rfl (by decide)) rfl ?_
 refine Pu (.int .u8 (IntKind.u8.wrap (shrI .u64 (if (4611686018427387903 : Int) < a1 then (4611686018427387903 : Int) else a1) (16 : Int)))) (PO.conv us93 Tryd.underlying5 rfl) rfl ?_
 refine Pm (.int .u64 (if (4611686018427387903 : Int) < a1 then (4611686018427387903 : Int) else a1)) rfl rfl ?_
 refine Pu (.int .u64 (shrI .u64 (if (4611686018427387903 : Int) < a1 then (4611686018427387903 : Int) else a1) (8 : Int))) (PO.shr rfl rfl (by decide)) rfl ?_
 refine Pu (.int .u8 (IntKind.u8.wrap (shrI .u64 (if (4611686018427387903 : Int) < a1 then (4611686018427387903 : Int) else a1) (8 : Int)))) (PO.conv us93 Tryd.underlying5 rfl) rfl ?_
 refine Pm (.int .u64 (if (4611686018427387903 : Int) < a1 then (4611686018427387903 : Int) else a1)) rfl rfl ?_
 refine Pu (.int .u8 (IntKind.u8.wrap (if (4611686018427387903 : Int) < a1 then (4611686018427387903 : Int) else a1))) (PO.conv us93 Tryd.underlying5 rfl) rfl ?_
 refine WL.eff (EO.buildSliceL (cl := [(.int .u8 (orI .u8 (192 : Int) (IntKind.u8.wrap (shrI .u64 (if (4611686018427387903 : Int) < a1 then (4611686018427387903 : Int) else a1) (56 : Int))))), (.int .u8 (IntKind.u8.wrap (shrI .u64 (if (4611686018427387903 : Int) < a1 then (4611686018427387903 : Int) else a1) (48 : Int)))), (.int .u8 (IntKind.u8.wrap (shrI .u64 (if (4611686018427387903 : Int) < a1 then (4611686018427387903 : Int) else a1) (40 : Int)))), (.int .u8 (IntKind.u8.wrap (shrI .u64 (if (4611686018427387903 : Int) < a1 then (4611686018427387903 : Int) else a1) (32 : Int)))), (.int .u8 (IntKind.u8.wrap (shrI .u64 (if (4611686018427387903 : Int) < a1 then (4611686018427387903 : Int) else a1) (24 : Int)))), (.int .u8 (IntKind.u8.wrap (shrI .u64 (if (4611686018427387903 : Int) < a1 then (4611686018427387903 : Int) else a1) (16 : Int)))), (.int .u8 (IntKind.u8.wrap (shrI .u64 (if (4611686018427387903 : Int) < a1 then (4611686018427387903 : Int) else a1) (8 : Int)))), (.int .u8 (IntKind.u8.wrap (if (4611686018427387903 : Int) < a1 then (4611686018427387903 : Int) else a1)))]) Tryd.underlying28 iz5 rfl (Parts.cons (congrArg Value.cells (show ev _ _ = (.int .u8 (orI .u8 (192 : Int) (IntKind.u8.wrap (shrI .u64 (if (4611686018427387903 : Int) < a1 then (4611686018427387903 : Int) else a1) (56 : Int))))) from rfl)) (Parts.cons (congrArg Value.cells (show ev _ _ = (.int .u8 (IntKind.u8.wrap (shrI .u64 (if (4611686018427387903 : Int) < a1 then (4611686018427387903 : Int) else a1) (48 : Int)))) from rfl)) (Parts.cons (congrArg Value.cells (show ev _ _ = (.int .u8 (IntKind.u8.wrap (shrI .u64 (if (4611686018427387903 : Int) < a1 then (4611686018427387903 : Int) else a1) (40 : Int)))) from rfl)) (Parts.cons (congrArg Value.cells (show ev _ _ = (.int .u8 (IntKind.u8.wrap (shrI .u64 (if (4611686018427387903 : Int) < a1 then (4611686018427387903 : Int) else a1) (32 : Int)))) from rfl)) (Parts.cons (congrArg Value.cells (show ev _ _ = (.int .u8 (IntKind.u8.wrap (shrI .u64 (if (4611686018427387903 : Int) < a1 then (4611686018427387903 : Int) else a1) (24 : Int)))) from rfl)) (Parts.cons (congrArg Value.cells (show ev _ _ = (.int .u8 (IntKind.u8.wrap (shrI .u64 (if (4611686018427387903 : Int) < a1 then (4611686018427387903 : Int) else a1) (16 : Int)))) from rfl)) (Parts.cons (congrArg Value.cells (show ev _ _ = (.int .u8 (IntKind.u8.wrap (shrI .u64 (if (4611686018427387903 : Int) < a1 then (4611686018427387903 : Int) else a1) (8 : Int)))) from rfl)) (Parts.cons (congrArg Value.cells (show ev _ _ = (.int .u8 (IntKind.u8.wrap (if (4611686018427387903 : Int) < a1 then (4611686018427387903 : Int) else a1))) from rfl)) Parts.nil)))))))) rfl) rfl ?_
 rintro _ _ _ - ⟨rfl, g45, rfl, rfl⟩
 have h47 : OwnS (Kd.int .u8) M (.slice (some ⟨g45, 0, none⟩) 8 8) [orI .u8 (192 : Int) (IntKind.u8.wrap (shrI .u64 (if (4611686018427387903 : Int) < a1 then (4611686018427387903 : Int) else a1) (56 : Int))), IntKind.u8.wrap (shrI .u64 (if (4611686018427387903 : Int) < a1 then (4611686018427387903 : Int) else a1) (48 : Int)), IntKind.u8.wrap (shrI .u64 (if (4611686018427387903 : Int) < a1 then (4611686018427387903 : Int) else a1) (40 : Int)), IntKind.u8.wrap (shrI .u64 (if (4611686018427387903 : Int) < a1 then (4611686018427387903 : Int) else a1) (32 : Int)), IntKind.u8.wrap (shrI .u64 (if (4611686018427387903 : Int) < a1 then (4611686018427387903 : Int) else a1) (24 : Int)), IntKind.u8.wrap (shrI .u64 (if (4611686018427387903 : Int) < a1 then (4611686018427387903 : Int) else a1) (16 : Int)), IntKind.u8.wrap (shrI .u64 (if (4611686018427387903 : Int) < a1 then (4611686018427387903 : Int) else a1) (8 : Int)), IntKind.u8.wrap (if (4611686018427387903 : Int) < a1 then (4611686018427387903 : Int) else a1)] [(g45, .cells #[(.int .u8 (orI .u8 (192 : Int) (IntKind.u8.wrap (shrI .u64 (if (4611686018427387903 : Int) < a1 then (4611686018427387903 : Int) else a1) (56 : Int))))), (.int .u8 (IntKind.u8.wrap (shrI .u64 (if (4611686018427387903 : Int) < a1 then (4611686018427387903 : Int) else a1) (48 : Int)))), (.int .u8 (IntKind.u8.wrap (shrI .u64 (if (4611686018427387903 : Int) < a1 then (4611686018427387903 : Int) else a1) (40 : Int)))), (.int .u8 (IntKind.u8.wrap (shrI .u64 (if (4611686018427387903 : Int) < a1 then (4611686018427387903 : Int) else a1) (32 : Int)))), (.int .u8 (IntKind.u8.wrap (shrI .u64 (if (4611686018427387903 : Int) < a1 then (4611686018427387903 : Int) else a1) (24 : Int)))), (.int .u8 (IntKind.u8.wrap (shrI .u64 (if (4611686018427387903 : Int) < a1 then (4611686018427387903 : Int) else a1) (16 : Int)))), (.int .u8 (IntKind.u8.wrap (shrI .u64 (if (4611686018427387903 : Int) < a1 then (4611686018427387903 : Int) else a1) (8 : Int)))), (.int .u8 (IntKind.u8.wrap (if (4611686018427387903 : Int) < a1 then (4611686018427387903 : Int) else a1)))] 5 (0, 0))] := OwnS.rows (css := [[(.int .u8 (orI .u8 (192 : Int) (IntKind.u8.wrap (shrI .u64 (if (4611686018427387903 : Int) < a1 then (4611686018427387903 : Int) else a1) (56 : Int)))))], [(.int .u8 (IntKind.u8.wrap (shrI .u64 (if (4611686018427387903 : Int) < a1 then (4611686018427387903 : Int) else a1) (48 : Int))))], [(.int .u8 (IntKind.u8.wrap (shrI .u64 (if (4611686018427387903 : Int) < a1 then (4611686018427387903 : Int) else a1) (40 : Int))))], [(.int .u8 (IntKind.u8.wrap (shrI .u64 (if (4611686018427387903 : Int) < a1 then (4611686018427387903 : Int) else a1) (32 : Int))))], [(.int .u8 (IntKind.u8.wrap (shrI .u64 (if (4611686018427387903 : Int) < a1 then (4611686018427387903 : Int) else a1) (24 : Int))))], [(.int .u8 (IntKind.u8.wrap (shrI .u64 (if (4611686018427387903 : Int) < a1 then (4611686018427387903 : Int) else a1) (16 : Int))))], [(.int .u8 (IntKind.u8.wrap (shrI .u64 (if (4611686018427387903 : Int) < a1 then (4611686018427387903 : Int) else a1) (8 : Int))))], [(.int .u8 (IntKind.u8.wrap (if (4611686018427387903 : Int) < a1 then (4611686018427387903 : Int) else a1)))]]) (Rows.cons rfl (Rows.cons rfl (Rows.cons rfl (Rows.cons rfl (Rows.cons rfl (Rows.cons rfl (Rows.cons rfl (Rows.cons rfl Rows.nil)))))))) rfl rfl
 obtain ⟨hg51, h⟩ := grd_i h
 refine WL.f1 ?_
 refine WL.eff (EO.append (dd := (Kd.int .u8)) (xs := a0) (ys := [orI .u8 (192 : Int) (IntKind.u8.wrap (shrI .u64 (if (4611686018427387903 : Int) < a1 then (4611686018427387903 : Int) else a1) (56 : Int))), IntKind.u8.wrap (shrI .u64 (if (4611686018427387903 : Int) < a1 then (4611686018427387903 : Int) else a1) (48 : Int)), IntKind.u8.wrap (shrI .u64 (if (4611686018427387903 : Int) < a1 then (4611686018427387903 : Int) else a1) (40 : Int)), IntKind.u8.wrap (shrI .u64 (if (4611686018427387903 : Int) < a1 then (4611686018427387903 : Int) else a1) (32 : Int)), IntKind.u8.wrap (shrI .u64 (if (4611686018427387903 : Int) < a1 then (4611686018427387903 : Int) else a1) (24 : Int)), IntKind.u8.wrap (shrI .u64 (if (4611686018427387903 : Int) < a1 then (4611686018427387903 : Int) else a1) (16 : Int)), IntKind.u8.wrap (shrI .u64 (if (4611686018427387903 : Int) < a1 then (4611686018427387903 : Int) else a1) (8 : Int)), IntKind.u8.wrap (if (4611686018427387903 : Int) < a1 then (4611686018427387903 : Int) else a1)]) Tryd.underlying28 Tryd.underlying28 in5 rfl (appB (by decide) hg51) (by decide) rfl rfl h0 (h47.src 1 rfl)) rfl ?_
 rintro v50 _ _ - ⟨rfl, c48, rfl, h49⟩
 refine Pa v50 rfl rfl ?_
 refine Nt ?_
 refine WC.ret ?_
 refine WQ.f1 ?_
 refine WQ.drop ?_
 exact WQ.returnsF h [c48] rfl (results1 rfl rfl) (IM.le.refl _) ⟨v50, c48, rfl, rfl, h49⟩

noncomputable def f_wire_Int (a0 : (List Int)) (a1 : Int) : Option (List Int) :=
  ((f_wire_Num a0 (IntKind.u64.wrap (if a1 < (0 : Int) then (0 : Int) else a1))).bind fun (r21 : (List Int)) => (some r21))
def f_wire_Int_post (a0 : (List Int)) (a1 : Int) (v0 : Value) : (List Int) → Value → IM → HL → Prop :=
  fun (r0 : (List Int)) (v : Value) (M' : IM) (H' : HL) => ∃ vz0 cz0, vz0 = v ∧ H' = [cz0] ∧ OwnS (Kd.int .u8) M' vz0 r0 cz0
theorem f_wire_Int_ok (a0 : (List Int)) (a1 : Int) (M : IM) (v0 : Value) (c0 : Chunk) (h0 : OwnS (Kd.int .u8) M v0 a0 c0) (res : (List Int)) (h : f_wire_Int a0 a1 = some res) :
    Tri Tryd.prog 29 #[v0, (.int .i64 a1)] M [c0] (f_wire_Int_post a0 a1 v0 res) := by
 unfold f_wire_Int at h
 refine Tri.enter (fn := Tryd.f29) Tryd.func29 rfl (Nat.le_of_ble_eq_true rfl) ?_
 intro F ρ hρ
 refine Sr ?_
 refine Pa (.slice none 0 0) rfl rfl ?_
 refine Ns ?_
 refine Pm v0 (hρ 0) rfl ?_
 refine Pm (.int .i64 a1) (hρ 1) rfl ?_
 refine Pu (.int .i64 (if a1 < 0 then (0 : Int) else a1)) (PO.max rfl rfl) rfl ?_
 refine Pu (.int .u64 (IntKind.u64.wrap (if a1 < 0 then (0 : Int) else a1))) (PO.conv us3 Tryd.underlying93 rfl) rfl ?_
 obtain ⟨r21, hr22, h⟩ := bnd h
 refine WL.eff (EO.call1 co67 (f_wire_Num_ok a0 (IntKind.u64.wrap (if a1 < 0 then (0 : Int) else a1)) _ _ _ h0 r21 hr22) (args2 rfl rfl)) rfl ?_
 rintro _ M23 _ hle24 ⟨_, ⟨vq25, cq25, rfl, rfl, hq25⟩, rfl⟩
 have h0 := h0.mono hle24
 refine WL.a1 ?_
 refine Pa vq25 rfl rfl ?_
 refine Nt ?_
 refine WC.ret ?_
 exact WQ.returnsF h [cq25] rfl (results1 rfl rfl) hle24 ⟨vq25, cq25, rfl, rfl, hq25⟩

noncomputable def f_record_Put_1 (a0 : Int) (a1 : Int) (a2 : Int) (a3 : (List Int)) : Option (List Int) :=
  (if (decide ((andI .i64 a2 a0) ≠ (0 : Int))) = true then ((f_wire_Int a3 a1).bind fun (r22 : (List Int)) => (some r22)) else (some a3))
def f_record_Put_1_post (a0 : Int) (a1 : Int) (a2 : Int) (a3 : (List Int)) (v3 : Value) (g2 g3 : Nat) : (List Int) → Value → IM → HL → Prop :=
  fun (r0 : (List Int)) (v : Value) (M' : IM) (H' : HL) => ∃ w0 d1, (.tuple #[]) = v ∧ H' = [[(g2, .cells #[(.int .i64 a2)] 3 (0, 0))], [(g3, .cells #[w0] 28 (0, 0))], d1] ∧ OwnS (Kd.int .u8) M' w0 r0 d1
theorem f_record_Put_1_ok (a0 : Int) (a1 : Int) (a2 : Int) (a3 : (List Int)) (M : IM) (v3 : Value) (g2 g3 : Nat) (c3 : Chunk) (h3 : OwnS (Kd.int .u8) M v3 a3 c3) (res : (List Int)) (h : f_record_Put_1 a0 a1 a2 a3 = some res) :
    Tri Tryd.prog 28 #[(.int .i64 a0), (.int .i64 a1), (pt g2 0), (pt g3 0)] M [[(g2, .cells #[(.int .i64 a2)] 3 (0, 0))], [(g3, .cells #[v3] 28 (0, 0))], c3] (f_record_Put_1_post a0 a1 a2 a3 v3 g2 g3 res) := by
 unfold f_record_Put_1 at h
 refine Tri.enter (fn := Tryd.f28) Tryd.func28 rfl (Nat.le_of_ble_eq_true rfl) ?_
 intro F ρ hρ
 refine Sr ?_
 refine Pu (.int .i64 a2) (PO.loadB 0 pl3 (hρ 2) rfl rfl) rfl ?_
 refine Pm (.int .i64 a0) (hρ 0) rfl ?_
 refine Pu (.int .i64 (andI .i64 a2 a0)) (PO.and rfl rfl) rfl ?_
 refine Pu (.bool (decide ((andI .i64 a2 a0) ≠ 0))) (PO.neq rfl rfl) rfl ?_
 refine Nt ?_
 refine WC.cond (b := decide ((andI .i64 a2 a0) ≠ 0)) rfl (fun hb21 => ?_) (fun hb21 => ?_)
 have h := ite_t hb21 h
 refine WC.region ?_
 refine Pu v3 (PO.loadB 1 pl28 (hρ 3) rfl rfl) rfl ?_
 refine Pm (.int .i64 a1) (hρ 1) rfl ?_
 obtain ⟨r22, hr23, h⟩ := bnd h
 refine WL.f2 ?_
 refine WL.eff (EO.call1 co29 (f_wire_Int_ok a3 a1 _ _ _ h3 r22 hr23) (args2 rfl rfl)) rfl ?_
 rintro _ M24 _ hle25 ⟨_, ⟨vq26, cq26, rfl, rfl, hq26⟩, rfl⟩
 have h3 := h3.mono hle25
 refine WL.a1 ?_
 refine WL.f2 ?_
 refine WL.eff (EO.storeL (v := vq26) (vl := [vq26]) (arr' := [vq26]) hq26.cells sz28 (hρ 3) rfl (onesOf (Ones.cons (OwnS.one hq26) Ones.nil)) rfl rfl rfl) rfl ?_
 rintro _ _ _ - ⟨rfl, rfl⟩
 refine WL.nil ?_
 refine WQ.f1 ?_
 refine WQ.f1 ?_
 refine WQ.f2 ?_
 exact WQ.endsF h [[(g2, .cells #[(.int .i64 a2)] 3 (0, 0))], [(g3, .cells #[vq26] 28 (0, 0))], cq26] rfl (results0 rfl) hle25 ⟨vq26, cq26, rfl, rfl, hq26⟩
 have h := ite_f hb21 h
 refine WC.skip ?_
 exact WQ.endsF h [[(g2, .cells #[(.int .i64 a2)] 3 (0, 0))], [(g3, .cells #[v3] 28 (0, 0))], c3] rfl (results0 rfl) (IM.le.refl _) ⟨v3, c3, rfl, rfl, h3⟩

noncomputable def f_wire_Flag (a0 : (List Int)) (a1 : Bool) : Option (List Int) :=
  (if a1 = true then (grd (a0.length + [(1 : Int)].length ≤ 274877906944) (some (a0 ++ [(1 : Int)]))) else (grd (a0.length + [(0 : Int)].length ≤ 274877906944) (some (a0 ++ [(0 : Int)]))))
def f_wire_Flag_post (a0 : (List Int)) (a1 : Bool) (v0 : Value) : (List Int) → Value → IM → HL → Prop :=
  fun (r0 : (List Int)) (v : Value) (M' : IM) (H' : HL) => ∃ vz0 cz0, vz0 = v ∧ H' = [cz0] ∧ OwnS (Kd.int .u8) M' vz0 r0 cz0
theorem f_wire_Flag_ok (a0 : (List Int)) (a1 : Bool) (M : IM) (v0 : Value) (c0 : Chunk) (h0 : OwnS (Kd.int .u8) M v0 a0 c0) (res : (List Int)) (h : f_wire_Flag a0 a1 = some res) :
    Tri Tryd.prog 30 #[v0, (.bool a1)] M [c0] (f_wire_Flag_post a0 a1 v0 res) := by
 unfold f_wire_Flag at h
 refine Tri.enter (fn := Tryd.f30) Tryd.func30 rfl (Nat.le_of_ble_eq_true rfl) ?_
 intro F ρ hρ
 refine Sr ?_
 refine Pa (.slice none 0 0) rfl rfl ?_
 refine Nt ?_
 refine WC.seq ?_
 refine Sr ?_
 refine Pm (.bool a1) (hρ 1) rfl ?_
 refine Nt ?_
 refine WC.cond (b := a1) rfl (fun hb21 => ?_) (fun hb21 => ?_)
 have h := ite_t hb21 h
 refine Sr ?_
 refine Pm v0 (hρ 0) rfl ?_
 refine WL.eff (EO.buildSliceL (cl := [(.int .u8 1)]) Tryd.underlying28 iz5 rfl (Parts.cons (congrArg Value.cells (show ev _ _ = (.int .u8 1) from rfl)) Parts.nil) rfl) rfl ?_
 rintro _ _ _ - ⟨rfl, g22, rfl, rfl⟩
 have h24 : OwnS (Kd.int .u8) M (.slice (some ⟨g22, 0, none⟩) 1 1) [(1 : Int)] [(g22, .cells #[(.int .u8 1)] 5 (0, 0))] := OwnS.rows (css := [[(.int .u8 1)]]) (Rows.cons rfl Rows.nil) rfl rfl
 obtain ⟨hg28, h⟩ := grd_i h
 refine WL.f1 ?_
 refine WL.eff (EO.append (dd := (Kd.int .u8)) (xs := a0) (ys := [(1 : Int)]) Tryd.underlying28 Tryd.underlying28 in5 rfl (appB (by decide) hg28) (by decide) rfl rfl h0 (h24.src 1 rfl)) rfl ?_
 rintro v27 _ _ - ⟨rfl, c25, rfl, h26⟩
 refine Pa v27 rfl rfl ?_
 refine Nt ?_
 refine WC.ret ?_
 refine WQ.thenR ?_
 refine WQ.f1 ?_
 refine WQ.drop ?_
 exact WQ.returnsF h [c25] rfl (results1 rfl rfl) (IM.le.refl _) ⟨v27, c25, rfl, rfl, h26⟩
 have h := ite_f hb21 h
 refine WC.skip ?_
 refine WQ.thenC ?_
 refine Sr ?_
 refine Pm v0 (hρ 0) rfl ?_
 refine WL.eff (EO.buildSliceL (cl := [(.int .u8 0)]) Tryd.underlying28 iz5 rfl (Parts.cons (congrArg Value.cells (show ev _ _ = (.int .u8 0) from rfl)) Parts.nil) rfl) rfl ?_
 rintro _ _ _ - ⟨rfl, g29, rfl, rfl⟩
 have h31 : OwnS (Kd.int .u8) M (.slice (some ⟨g29, 0, none⟩) 1 1) [(0 : Int)] [(g29, .cells #[(.int .u8 0)] 5 (0, 0))] := OwnS.rows (css := [[(.int .u8 0)]]) (Rows.cons rfl Rows.nil) rfl rfl
 obtain ⟨hg35, h⟩ := grd_i h
 refine WL.f1 ?_
 refine WL.eff (EO.append (dd := (Kd.int .u8)) (xs := a0) (ys := [(0 : Int)]) Tryd.underlying28 Tryd.underlying28 in5 rfl (appB (by decide) hg35) (by decide) rfl rfl h0 (h31.src 1 rfl)) rfl ?_
 rintro v34 _ _ - ⟨rfl, c32, rfl, h33⟩
 refine Pa v34 rfl rfl ?_
 refine Nt ?_
 refine WC.ret ?_
 refine WQ.f1 ?_
 refine WQ.drop ?_
 exact WQ.returnsF h [c32] rfl (results1 rfl rfl) (IM.le.refl _) ⟨v34, c32, rfl, rfl, h33⟩

noncomputable def f_wire_Text (a0 : (List Int)) (a1 : (List Int)) : Option (List Int) :=
  ((f_wire_Int a0 (a1.length : Int)).bind fun (r21 : (List Int)) => (grd (r21.length + a1.length ≤ 274877906944) (some (r21 ++ a1))))
def f_wire_Text_post (a0 : (List Int)) (a1 : (List Int)) (v0 v1 : Value) : (List Int) → Value → IM → HL → Prop :=
  fun (r0 : (List Int)) (v : Value) (M' : IM) (H' : HL) => ∃ vz0 cz0, vz0 = v ∧ H' = [cz0] ∧ OwnS (Kd.int .u8) M' vz0 r0 cz0
theorem f_wire_Text_ok (a0 : (List Int)) (a1 : (List Int)) (M : IM) (v0 v1 : Value) (c0 : Chunk) (h0 : OwnS (Kd.int .u8) M v0 a0 c0) (h1 : RS (Kd.int .u8) M v1 a1) (res : (List Int)) (h : f_wire_Text a0 a1 = some res) :
    Tri Tryd.prog 32 #[v0, v1] M [c0] (f_wire_Text_post a0 a1 v0 v1 res) := by
 unfold f_wire_Text at h
 refine Tri.enter (fn := Tryd.f32) Tryd.func32 rfl (Nat.le_of_ble_eq_true rfl) ?_
 intro F ρ hρ
 refine Sr ?_
 refine Pa (.slice none 0 0) rfl rfl ?_
 refine Ns ?_
 refine Pm v0 (hρ 0) rfl ?_
 refine Pm v1 (hρ 1) rfl ?_
 refine Pu (.int .i64 (a1.length : Int)) (PO.lenS Tryd.underlying28 rfl h1.len) rfl ?_
 obtain ⟨r21, hr22, h⟩ := bnd h
 refine WL.eff (EO.call1 co29 (f_wire_Int_ok a0 (a1.length : Int) _ _ _ h0 r21 hr22) (args2 rfl rfl)) rfl ?_
 rintro _ M23 _ hle24 ⟨_, ⟨vq25, cq25, rfl, rfl, hq25⟩, rfl⟩
 have h0 := h0.mono hle24
 have h1 := h1.mono hle24
 refine WL.a1 ?_
 refine Pm v1 (hρ 1) rfl ?_
 obtain ⟨hg29, h⟩ := grd_i h
 refine WL.eff (EO.append (dd := (Kd.int .u8)) (xs := r21) (ys := a1) Tryd.underlying28 Tryd.underlying28 in5 rfl (appB (by decide) hg29) (by decide) rfl rfl hq25 (h1.src _)) rfl ?_
 rintro v28 _ _ - ⟨rfl, c26, rfl, h27⟩
 refine Pa v28 rfl rfl ?_
 refine Nt ?_
 refine WC.ret ?_
 exact WQ.returnsF h [c26] rfl (results1 rfl rfl) hle24 ⟨v28, c26, rfl, rfl, h27⟩

noncomputable def f_record_Put_2 (a0 : Int) (a1 : ByteArray) (a2 : Int) (a3 : (List Int)) : Option (List Int) :=
  (if (decide ((andI .i64 a2 a0) ≠ (0 : Int))) = true then ((f_wire_Text a3 (bytesOf a1)).bind fun (r25 : (List Int)) => (some r25)) else (some a3))
def f_record_Put_2_post (a0 : Int) (a1 : ByteArray) (a2 : Int) (a3 : (List Int)) (v3 : Value) (g2 g3 : Nat) : (List Int) → Value → IM → HL → Prop :=
  fun (r0 : (List Int)) (v : Value) (M' : IM) (H' : HL) => ∃ w0 d1, (.tuple #[]) = v ∧ H' = [[(g2, .cells #[(.int .i64 a2)] 3 (0, 0))], [(g3, .cells #[w0] 28 (0, 0))], d1] ∧ OwnS (Kd.int .u8) M' w0 r0 d1
theorem f_record_Put_2_ok (a0 : Int) (a1 : ByteArray) (a2 : Int) (a3 : (List Int)) (M : IM) (v3 : Value) (g2 g3 : Nat) (c3 : Chunk) (h3 : OwnS (Kd.int .u8) M v3 a3 c3) (res : (List Int)) (h : f_record_Put_2 a0 a1 a2 a3 = some res) :
    Tri Tryd.prog 31 #[(.int .i64 a0), (.string a1), (pt g2 0), (pt g3 0)] M [[(g2, .cells #[(.int .i64 a2)] 3 (0, 0))], [(g3, .cells #[v3] 28 (0, 0))], c3] (f_record_Put_2_post a0 a1 a2 a3 v3 g2 g3 res) := by
 unfold f_record_Put_2 at h
 refine Tri.enter (fn := Tryd.f31) Tryd.func31 rfl (Nat.le_of_ble_eq_true rfl) ?_
 intro F ρ hρ
 refine Sr ?_
 refine Pu (.int .i64 a2) (PO.loadB 0 pl3 (hρ 2) rfl rfl) rfl ?_
 refine Pm (.int .i64 a0) (hρ 0) rfl ?_
 refine Pu (.int .i64 (andI .i64 a2 a0)) (PO.and rfl rfl) rfl ?_
 refine Pu (.bool (decide ((andI .i64 a2 a0) ≠ 0))) (PO.neq rfl rfl) rfl ?_
 refine Nt ?_
 refine WC.cond (b := decide ((andI .i64 a2 a0) ≠ 0)) rfl (fun hb21 => ?_) (fun hb21 => ?_)
 have h := ite_t hb21 h
 refine WC.region ?_
 refine Pu v3 (PO.loadB 1 pl28 (hρ 3) rfl rfl) rfl ?_
 refine Pm (.string a1) (hρ 1) rfl ?_
 refine WL.eff (EO.s2b Tryd.underlying9 Tryd.underlying28 Tryd.underlying5 rfl) rfl ?_
 rintro v24 _ _ - ⟨rfl, c22, rfl, h23⟩
 obtain ⟨r25, hr26, h⟩ := bnd h
 refine WL.f3 ?_
 refine WL.f1 ?_
 refine WL.eff (EO.call2 co32 (Tri.lend fun w0_ H0_ hs0_ => (f_wire_Text_ok a3 (bytesOf a1) _ _ _ _ (h3.mono (IM.le_add _ _)) (h23.rs hs0_) r25 hr26)) (args2 rfl rfl)) rfl ?_
 rintro _ _ _ hle28 ⟨_, ⟨Ml30, Hl31, hll32, rfl, rfl, ⟨vq29, cq29, rfl, rfl, hq29⟩⟩, rfl⟩
 have h3 := h3.mono hle28
 have h23 := h23.mono hle28
 have hq29 : OwnS (Kd.int .u8) (Ml30.minus c22) vq29 r25 cq29 := hq29.any (Kd.int_flat _)
 refine WL.a2 ?_
 refine WL.f3 ?_
 refine WL.eff (EO.storeL (v := vq29) (vl := [vq29]) (arr' := [vq29]) hq29.cells sz28 (hρ 3) rfl (onesOf (Ones.cons (OwnS.one hq29) Ones.nil)) rfl rfl rfl) rfl ?_
 rintro _ _ _ - ⟨rfl, rfl⟩
 refine WL.nil ?_
 refine WQ.f1 ?_
 refine WQ.drop ?_
 refine WQ.f1 ?_
 refine WQ.f1 ?_
 refine WQ.f2 ?_
 exact WQ.endsF h [[(g2, .cells #[(.int .i64 a2)] 3 (0, 0))], [(g3, .cells #[vq29] 28 (0, 0))], cq29] rfl (results0 rfl) hle28 ⟨vq29, cq29, rfl, rfl, hq29⟩
 have h := ite_f hb21 h
 refine WC.skip ?_
 exact WQ.endsF h [[(g2, .cells #[(.int .i64 a2)] 3 (0, 0))], [(g3, .cells #[v3] 28 (0, 0))], c3] rfl (results0 rfl) (IM.le.refl _) ⟨v3, c3, rfl, rfl, h3⟩

noncomputable def f_wire_Row_l0 (a1 : (List Int)) (s_ : ((List Int) × Int)) : Option (((List Int) × Int) ⊕ (List Int)) :=
  match s_ with
  | (x29, x30) =>
    (if (decide (x30 < (a1.length : Int))) = true then (grd (0 ≤ x30 ∧ x30 < a1.length) ((f_wire_Int x29 (rd a1 x30)).bind fun (r40 : (List Int)) => (some (Sum.inl (r40, IntKind.i64.wrap (x30 + (1 : Int))))))) else (some (Sum.inr x29)))
noncomputable def f_wire_Row (a0 : (List Int)) (a1 : (List Int)) : Option (List Int) :=
  ((f_wire_Int a0 (a1.length : Int)).bind fun (r21 : (List Int)) => ((((iter (f_wire_Row_l0 a1) (r21, (0 : Int))).bind (fun (x31 : (List Int)) => (some x31))) : Option (List Int)).bind fun (x26 : (List Int)) => (some x26)))
def f_wire_Row_post (a0 : (List Int)) (a1 : (List Int)) (v0 v1 : Value) : (List Int) → Value → IM → HL → Prop :=
  fun (r0 : (List Int)) (v : Value) (M' : IM) (H' : HL) => ∃ vz0 cz0, vz0 = v ∧ H' = [cz0] ∧ OwnS (Kd.int .u8) M' vz0 r0 cz0
theorem f_wire_Row_ok (a0 : (List Int)) (a1 : (List Int)) (M : IM) (v0 v1 : Value) (c0 : Chunk) (h0 : OwnS (Kd.int .u8) M v0 a0 c0) (h1 : RS (Kd.int .i64) M v1 a1) (res : (List Int)) (h : f_wire_Row a0 a1 = some res) :
    Tri Tryd.prog 34 #[v0, v1] M [c0] (f_wire_Row_post a0 a1 v0 v1 res) := by
 unfold f_wire_Row at h
 refine Tri.enter (fn := Tryd.f34) Tryd.func34 rfl (Nat.le_of_ble_eq_true rfl) ?_
 intro F ρ hρ
 refine Sr ?_
 refine Pa (.slice none 0 0) rfl rfl ?_
 refine Ns ?_
 refine Pm v0 (hρ 0) rfl ?_
 refine Pm v1 (hρ 1) rfl ?_
 refine Pu (.int .i64 (a1.length : Int)) (PO.lenS Tryd.underlying22 rfl h1.len) rfl ?_
 obtain ⟨r21, hr22, h⟩ := bnd h
 refine WL.eff (EO.call1 co29 (f_wire_Int_ok a0 (a1.length : Int) _ _ _ h0 r21 hr22) (args2 rfl rfl)) rfl ?_
 rintro _ M23 _ hle24 ⟨_, ⟨vq25, cq25, rfl, rfl, hq25⟩, rfl⟩
 have h0 := h0.mono hle24
 have h1 := h1.mono hle24
 refine WL.a1 ?_
 refine Pa vq25 rfl rfl ?_
 refine Nt ?_
 obtain ⟨x26, hj27, h⟩ := bnd h
 refine WC.joinF (fun (x26 : (List Int)) ρ' M' H' => ∃ vx26 cx26, M23.le M' ∧ cx26 :: F = H' ∧ ρ' 0 = vx26 ∧ OwnS (Kd.int .u8) M' vx26 x26 cx26) x26 ?_ ?_
 have h327 := h
 have h := hj27
 refine Sr ?_
 refine Pm v1 (hρ 1) rfl ?_
 refine Pu (.int .i64 (a1.length : Int)) (PO.lenS Tryd.underlying22 rfl h1.len) rfl ?_
 refine Pm (.int .i64 0) rfl rfl ?_
 refine Nt ?_
 refine WC.block ?_
 obtain ⟨e28, he28, hK28⟩ := bnd h
 clear h
 refine WC.loop he28 (fun (p_ : ((List Int) × Int)) ρ' M' H' => match p_ with | (x29, x30) => ∃ vx29 cx29, M23.le M' ∧ cx29 :: F = H' ∧ ρ' 0 = vx29 ∧ ρ' 11 = v1 ∧ ρ' 12 = (.int .i64 (a1.length : Int)) ∧ ρ' 13 = (.int .i64 x30) ∧ OwnS (Kd.int .u8) M' vx29 x29 cx29) ?_ ?_
 exact ⟨vq25, cq25, (IM.le.refl _), rfl, rfl, rfl, rfl, rfl, hq25⟩
 rintro ⟨x29, x30⟩ o28 ρ28 M28 H28 h ⟨vx29, cx29, hle28, rfl, hs28_0, hs28_11, hs28_12, hs28_13, hx29⟩
 unfold f_wire_Row_l0 at h
 have h1 := h1.mono hle28
 refine Sr ?_
 refine Pu (.bool (decide (x30 < (a1.length : Int)))) (PO.lss hs28_13 hs28_12) rfl ?_
 refine Nt ?_
 refine WC.seq ?_
 refine WC.cond (b := decide (x30 < (a1.length : Int))) rfl (fun hb32 => ?_) (fun hb32 => ?_)
 have h := ite_t hb32 h
 refine WC.skip ?_
 refine WQ.thenC ?_
 refine WC.seq ?_
 refine WC.block ?_
 refine Sr ?_
 obtain ⟨hg33, h⟩ := grd_i h
 obtain ⟨p34, cs35, hat36, hrc37, hhas38⟩ := h1.at hg33.1 hg33.2 (by decide)
 obtain rfl := hrc37
 refine Pu (.pointer (some p34)) (PO.indexAddr (n := a1.length) Tryd.underlying22 sz3 hs28_11 hs28_13 hg33.1 hg33.2 hat36) rfl ?_
 refine Pu (.int .i64 (rd a1 x30)) (PO.loadM pl3 rfl (IM.has0 hhas38)) rfl ?_
 refine Pa (.int .i64 (rd a1 x30)) rfl rfl ?_
 refine Nt ?_
 refine WC.region ?_
 refine Pm vx29 hs28_0 rfl ?_
 refine Pm (.int .i64 (rd a1 x30)) rfl rfl ?_
 obtain ⟨r40, hr41, h⟩ := bnd h
 refine WL.eff (EO.call1 co29 (f_wire_Int_ok x29 (rd a1 x30) _ _ _ hx29 r40 hr41) (args2 rfl rfl)) rfl ?_
 rintro _ M42 _ hle43 ⟨_, ⟨vq44, cq44, rfl, rfl, hq44⟩, rfl⟩
 have hx29 := hx29.mono hle43
 have h1 := h1.mono hle43
 refine WL.a1 ?_
 refine Pa vq44 rfl rfl ?_
 refine WL.nil ?_
 refine WQ.blockN ?_
 refine WQ.thenC ?_
 refine WC.region ?_
 refine Pu (.int .i64 (IntKind.i64.wrap (x30 + 1))) (PO.add hs28_13 rfl) rfl ?_
 refine Pm (.int .i64 (IntKind.i64.wrap (x30 + 1))) rfl rfl ?_
 refine WL.nil ?_
 refine WQ.again (r40, IntKind.i64.wrap (x30 + 1)) (Option.some.inj h).symm ?_
 exact ⟨vq44, cq44, (hle28.trans hle43), rfl, rfl, hs28_11, hs28_12, rfl, hq44⟩
 have h := ite_f hb32 h
 refine WC.exit ?_
 refine WQ.thenE ?_
 refine WQ.leaveE x29 (Option.some.inj h).symm (fun heq28 => ?_)
 subst heq28
 have h := hK28
 refine WQ.blockH ?_
 obtain rfl := Option.some.inj h
 refine WQ.thenJ ?_
 exact ⟨vx29, cx29, hle28, rfl, hs28_0, hx29⟩
 rintro ρ27 M27 H27 ⟨vx26, cx26, hle27, rfl, hs27_0, hx26⟩
 refine Sr ?_
 refine Pm vx26 hs27_0 rfl ?_
 refine Pa vx26 rfl rfl ?_
 refine Nt ?_
 refine WC.ret ?_
 exact WQ.returnsF h [cx26] rfl (results1 rfl rfl) (hle24.trans hle27) ⟨vx26, cx26, rfl, rfl, hx26⟩

noncomputable def f_record_Put_3 (a0 : Int) (a1 : (List Int)) (a2 : Int) (a3 : (List Int)) : Option (List Int) :=
  (if (decide ((andI .i64 a2 a0) ≠ (0 : Int))) = true then ((f_wire_Row a3 a1).bind fun (r22 : (List Int)) => (some r22)) else (some a3))
def f_record_Put_3_post (a0 : Int) (a1 : (List Int)) (a2 : Int) (a3 : (List Int)) (v1 v3 : Value) (g2 g3 : Nat) : (List Int) → Value → IM → HL → Prop :=
  fun (r0 : (List Int)) (v : Value) (M' : IM) (H' : HL) => ∃ w0 d1, (.tuple #[]) = v ∧ H' = [[(g2, .cells #[(.int .i64 a2)] 3 (0, 0))], [(g3, .cells #[w0] 28 (0, 0))], d1] ∧ OwnS (Kd.int .u8) M' w0 r0 d1
theorem f_record_Put_3_ok (a0 : Int) (a1 : (List Int)) (a2 : Int) (a3 : (List Int)) (M : IM) (v1 v3 : Value) (g2 g3 : Nat) (c3 : Chunk) (h1 : RS (Kd.int .i64) M v1 a1) (h3 : OwnS (Kd.int .u8) M v3 a3 c3) (res : (List Int)) (h : f_record_Put_3 a0 a1 a2 a3 = some res) :
    Tri Tryd.prog 33 #[(.int .i64 a0), v1, (pt g2 0), (pt g3 0)] M [[(g2, .cells #[(.int .i64 a2)] 3 (0, 0))], [(g3, .cells #[v3] 28 (0, 0))], c3] (f_record_Put_3_post a0 a1 a2 a3 v1 v3 g2 g3 res) := by
 unfold f_record_Put_3 at h
 refine Tri.enter (fn := Tryd.f33) Tryd.func33 rfl (Nat.le_of_ble_eq_true rfl) ?_
 intro F ρ hρ
 refine Sr ?_
 refine Pu (.int .i64 a2) (PO.loadB 0 pl3 (hρ 2) rfl rfl) rfl ?_
 refine Pm (.int .i64 a0) (hρ 0) rfl ?_
 refine Pu (.int .i64 (andI .i64 a2 a0)) (PO.and rfl rfl) rfl ?_
 refine Pu (.bool (decide ((andI .i64 a2 a0) ≠ 0))) (PO.neq rfl rfl) rfl ?_
 refine Nt ?_
 refine WC.cond (b := decide ((andI .i64 a2 a0) ≠ 0)) rfl (fun hb21 => ?_) (fun hb21 => ?_)
 have h := ite_t hb21 h
 refine WC.region ?_
 refine Pu v3 (PO.loadB 1 pl28 (hρ 3) rfl rfl) rfl ?_
 refine Pm v1 (hρ 1) rfl ?_
 obtain ⟨r22, hr23, h⟩ := bnd h
 refine WL.f2 ?_
 refine WL.eff (EO.call1 co34 (f_wire_Row_ok a3 a1 _ _ _ _ h3 h1 r22 hr23) (args2 rfl rfl)) rfl ?_
 rintro _ M24 _ hle25 ⟨_, ⟨vq26, cq26, rfl, rfl, hq26⟩, rfl⟩
 have h1 := h1.mono hle25
 have h3 := h3.mono hle25
 refine WL.a1 ?_
 refine WL.f2 ?_
 refine WL.eff (EO.storeL (v := vq26) (vl := [vq26]) (arr' := [vq26]) hq26.cells sz28 (hρ 3) rfl (onesOf (Ones.cons (OwnS.one hq26) Ones.nil)) rfl rfl rfl) rfl ?_
 rintro _ _ _ - ⟨rfl, rfl⟩
 refine WL.nil ?_
 refine WQ.f1 ?_
 refine WQ.f1 ?_
 refine WQ.f2 ?_
 exact WQ.endsF h [[(g2, .cells #[(.int .i64 a2)] 3 (0, 0))], [(g3, .cells #[vq26] 28 (0, 0))], cq26] rfl (results0 rfl) hle25 ⟨vq26, cq26, rfl, rfl, hq26⟩
 have h := ite_f hb21 h
 refine WC.skip ?_
 exact WQ.endsF h [[(g2, .cells #[(.int .i64 a2)] 3 (0, 0))], [(g3, .cells #[v3] 28 (0, 0))], c3] rfl (results0 rfl) (IM.le.refl _) ⟨v3, c3, rfl, rfl, h3⟩


end Go.Proofs.YtafkdjljkolehaaDoor.G
