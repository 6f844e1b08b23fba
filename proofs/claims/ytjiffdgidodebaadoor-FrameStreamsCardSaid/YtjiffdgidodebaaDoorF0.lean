/- Go functions: what they come to, and that they do. Printed by a program of the session (gen). -/
import Derived.Test.YtjiffdgidodebaaDoorFF
import Derived.Test.YtjiffdgidodebaaDoorKShar
set_option linter.unusedVariables false
set_option linter.unusedSimpArgs false
set_option maxHeartbeats 8000000
set_option maxRecDepth 100000
namespace Go.Proofs.YtjiffdgidodebaaDoor.G
open Go Go.KK

noncomputable def f_law04_light_l0 (a0 : (List T_api_Frame)) (s_ : (Int × Int)) : Option ((Int × Int) ⊕ (Unit ⊕ Unit)) :=
  match s_ with
  | (x24, x25) =>
    (if (decide (x25 < (a0.length : Int))) = true then (grd (0 ≤ x25 ∧ x25 < a0.length) (if (decide ((1500 : Int) < (IntKind.i64.wrap (x24 + (((rd a0 x25).Body).length : Int))))) = true then (some (Sum.inr (Sum.inr ()))) else (some (Sum.inl (IntKind.i64.wrap (x24 + (((rd a0 x25).Body).length : Int)), IntKind.i64.wrap (x25 + (1 : Int))))))) else (some (Sum.inr (Sum.inl ()))))
noncomputable def f_law04_light (a0 : (List T_api_Frame)) : Option Bool :=
  (if (decide ((60 : Int) < (a0.length : Int))) = true then (some false) else ((((iter (f_law04_light_l0 a0) ((0 : Int), (0 : Int))).bind (Sum.elim (fun _ => (some (Sum.inl ()))) (fun _ => (((some false)).bind fun r => some (Sum.inr r))))) : Option (Unit ⊕ Bool)).bind (Sum.elim (fun _ => (some true)) some)))
def f_law04_light_post (a0 : (List T_api_Frame)) (v0 : Value) : Bool → Value → IM → HL → Prop :=
  fun (r0 : Bool) (v : Value) (M' : IM) (H' : HL) => (.bool r0) = v ∧ H' = []
theorem f_law04_light_ok (a0 : (List T_api_Frame)) (M : IM) (v0 : Value) (h0 : RS kd_api_Frame M v0 a0) (res : Bool) (h : f_law04_light a0 = some res) :
    Tri Tryd.prog 10 #[v0] M [] (f_law04_light_post a0 v0 res) := by
 unfold f_law04_light at h
 refine Tri.enter (fn := Tryd.f10) Tryd.func10 rfl (Nat.le_of_ble_eq_true rfl) ?_
 intro F ρ hρ
 refine Sr ?_
 refine Pa (.bool false) rfl rfl ?_
 refine Nt ?_
 refine WC.seq ?_
 refine Sr ?_
 refine Pm v0 (hρ 0) rfl ?_
 refine Pu (.int .i64 (a0.length : Int)) (PO.lenS Tryd.underlying22 rfl h0.len) rfl ?_
 refine Pu (.bool (decide ((60 : Int) < (a0.length : Int)))) (PO.gtr rfl rfl) rfl ?_
 refine Nt ?_
 refine WC.cond (b := decide ((60 : Int) < (a0.length : Int))) rfl (fun hb21 => ?_) (fun hb21 => ?_)
 have h := ite_t hb21 h
 refine Sr ?_
 refine Pa (.bool false) rfl rfl ?_
 refine Nt ?_
 refine WC.ret ?_
 refine WQ.thenR ?_
 exact WQ.returnsF h [] rfl (results1 rfl rfl) (IM.le.refl _) ⟨rfl, rfl⟩
 have h := ite_f hb21 h
 refine WC.skip ?_
 refine WQ.thenC ?_
 refine Sr ?_
 refine Pa (.int .i64 0) rfl rfl ?_
 refine Nt ?_
 obtain ⟨j22, hj22, h⟩ := bnd h
 refine WC.joinE (fun (_ : Unit) ρ' M' H' => M.le M' ∧ F = H') j22 ?_ ?_
 have h322 := h
 have h := hj22
 refine Sr ?_
 refine Pa (.int .i64 0) rfl rfl ?_
 refine Nt ?_
 refine WC.block ?_
 obtain ⟨e23, he23, hK23⟩ := bnd h
 clear h
 refine WC.loop he23 (fun (p_ : (Int × Int)) ρ' M' H' => match p_ with | (x24, x25) => M.le M' ∧ F = H' ∧ ρ' 0 = v0 ∧ ρ' 3 = (.int .i64 x24) ∧ ρ' 4 = (.int .i64 x25)) ?_ ?_
 exact ⟨(IM.le.refl _), rfl, (hρ 0), rfl, rfl⟩
 rintro ⟨x24, x25⟩ o23 ρ23 M23 H23 h ⟨hle23, rfl, hs23_0, hs23_3, hs23_4⟩
 unfold f_law04_light_l0 at h
 have h0 := h0.mono hle23
 refine WC.seq ?_
 refine Sr ?_
 refine Pm (.int .i64 x25) hs23_4 rfl ?_
 refine Pm v0 hs23_0 rfl ?_
 refine Pu (.int .i64 (a0.length : Int)) (PO.lenS Tryd.underlying22 rfl h0.len) rfl ?_
 refine Pu (.bool (decide (x25 < (a0.length : Int)))) (PO.lss rfl rfl) rfl ?_
 refine Nt ?_
 refine WC.cond (b := decide (x25 < (a0.length : Int))) rfl (fun hb26 => ?_) (fun hb26 => ?_)
 have h := ite_t hb26 h
 refine WC.skip ?_
 refine WQ.thenC ?_
 refine WC.seq ?_
 refine WC.block ?_
 refine Sr ?_
 refine Pm (.int .i64 x24) hs23_3 rfl ?_
 refine Pm v0 hs23_0 rfl ?_
 refine Pm (.int .i64 x25) hs23_4 rfl ?_
 obtain ⟨hg27, h⟩ := grd_i h
 obtain ⟨p28, cs29, hat30, hrc31, hhas32⟩ := h0.at hg27.1 hg27.2 (by decide)
 obtain ⟨vw33_1, rfl, hw33_1⟩ := kd_api_Frame_open hrc31
 refine Pu (.pointer (some p28)) (PO.indexAddr (n := a0.length) Tryd.underlying22 sz40 rfl rfl hg27.1 hg27.2 hat30) rfl ?_
 refine Pu (.pointer (some (p28.add 1))) (PO.fieldAddr fo40_1 rfl rfl) rfl ?_
 refine Pu vw33_1 (PO.loadM pl26 rfl (hhas32 1 _ rfl)) rfl ?_
 refine Pu (.int .i64 (((rd a0 x25).Body).length : Int)) (PO.lenS Tryd.underlying26 rfl hw33_1.len) rfl ?_
 refine Pu (.int .i64 (IntKind.i64.wrap (x24 + (((rd a0 x25).Body).length : Int)))) (PO.add rfl rfl) rfl ?_
 refine Pa (.int .i64 (IntKind.i64.wrap (x24 + (((rd a0 x25).Body).length : Int)))) rfl rfl ?_
 refine Ns ?_
 refine Pm (.int .i64 (IntKind.i64.wrap (x24 + (((rd a0 x25).Body).length : Int)))) rfl rfl ?_
 refine Pu (.bool (decide ((1500 : Int) < (IntKind.i64.wrap (x24 + (((rd a0 x25).Body).length : Int)))))) (PO.gtr rfl rfl) rfl ?_
 refine Nt ?_
 refine WC.cond (b := decide ((1500 : Int) < (IntKind.i64.wrap (x24 + (((rd a0 x25).Body).length : Int))))) rfl (fun hb34 => ?_) (fun hb34 => ?_)
 have h := ite_t hb34 h
 refine Sr ?_
 refine Pa (.bool false) rfl rfl ?_
 refine Nt ?_
 refine WC.ret ?_
 refine WQ.blockR ?_
 refine WQ.thenR ?_
 refine WQ.leaveR (Sum.inr ()) (Option.some.inj h).symm (fun heq23 => ?_)
 subst heq23
 have h := (elimR hK23)
 refine WQ.blockR ?_
 refine WQ.thenR ?_
 have h := KK.early h h322
 exact WQ.returnsF h [] rfl (results1 rfl rfl) hle23 ⟨rfl, rfl⟩
 have h := ite_f hb34 h
 refine WC.skip ?_
 refine WQ.blockN ?_
 refine WQ.thenC ?_
 refine WC.region ?_
 refine Pm (.int .i64 x25) hs23_4 rfl ?_
 refine Pu (.int .i64 (IntKind.i64.wrap (x25 + 1))) (PO.add rfl rfl) rfl ?_
 refine Pa (.int .i64 (IntKind.i64.wrap (x25 + 1))) rfl rfl ?_
 refine WL.nil ?_
 refine WQ.again (IntKind.i64.wrap (x24 + (((rd a0 x25).Body).length : Int)), IntKind.i64.wrap (x25 + 1)) (Option.some.inj h).symm ?_
 exact ⟨hle23, rfl, hs23_0, rfl, rfl⟩
 have h := ite_f hb26 h
 refine WC.exit ?_
 refine WQ.thenE ?_
 refine WQ.leaveE (Sum.inl ()) (Option.some.inj h).symm (fun heq23 => ?_)
 subst heq23
 have h := elimL hK23
 refine WQ.blockH ?_
 refine WQ.thenFE h ?_
 exact ⟨hle23, rfl⟩
 rintro _ ρ22 M22 H22 rfl ⟨hle22, rfl⟩
 have h := (Sum.elim_inl _ _ _).symm.trans h
 refine Sr ?_
 refine Pa (.bool true) rfl rfl ?_
 refine Nt ?_
 refine WC.ret ?_
 exact WQ.returnsF h [] rfl (results1 rfl rfl) hle22 ⟨rfl, rfl⟩

noncomputable def f_fault_New (a0 : ByteArray) (a1 : Int) (a2 : Int) : Option GErr :=
  (some (GErr.fault a0 a1 (GErr.code a2)))
def f_fault_New_post (a0 : ByteArray) (a1 : Int) (a2 : Int) : GErr → Value → IM → HL → Prop :=
  fun (r0 : GErr) (v : Value) (M' : IM) (H' : HL) => (GV r0) = v ∧ H' = []
theorem f_fault_New_ok (a0 : ByteArray) (a1 : Int) (a2 : Int) (M : IM) (res : GErr) (h : f_fault_New a0 a1 a2 = some res) :
    Tri Tryd.prog 37 #[(.string a0), (.int .i64 a1), (.int .i64 a2)] M [] (f_fault_New_post a0 a1 a2 res) := by
 unfold f_fault_New at h
 refine Tri.enter (fn := Tryd.f37) Tryd.func37 rfl (Nat.le_of_ble_eq_true rfl) ?_
 intro F ρ hρ
 refine Sr ?_
 refine Pa (GV GErr.nil) rfl rfl ?_
 refine Ns ?_
 refine Pm (.string a0) (hρ 0) rfl ?_
 refine Pm (.int .i64 a1) (hρ 1) rfl ?_
 refine Pm (.int .i64 a2) (hρ 2) rfl ?_
 refine Pu (GV (GErr.code a2)) (PO.makeInterface cc47 rfl) rfl ?_
 refine Pu (.agg #[(.string a0), (.int .i64 a1), (GV (GErr.code a2))]) (PO.buildL (cl := [(.string a0), (.int .i64 a1), (GV (GErr.code a2))]) ze89 fp89 (Parts.cons (congrArg Value.cells (show ev _ _ = (.string a0) from rfl)) (Parts.cons (congrArg Value.cells (show ev _ _ = (.int .i64 a1) from rfl)) (Parts.cons ((congrArg Value.cells (show ev _ _ = (GV (GErr.code a2)) from rfl)).trans (GErr.val_cells _ _ _ _)) Parts.nil))) rfl) rfl ?_
 refine Pu (GV (GErr.fault a0 a1 (GErr.code a2))) (PO.makeInterface cc89 rfl) rfl ?_
 refine Pa (GV (GErr.fault a0 a1 (GErr.code a2))) rfl rfl ?_
 refine Nt ?_
 refine WC.ret ?_
 exact WQ.returnsF h [] rfl (results1 rfl rfl) (IM.le.refl _) ⟨rfl, rfl⟩

noncomputable def f_wire_Num (a0 : (List Int)) (a1 : Int) : Option (List Int) :=
  (if (decide ((if (4611686018427387903 : Int) < a1 then (4611686018427387903 : Int) else a1) < (64 : Int))) = true then (grd (a0.length + [IntKind.u8.wrap (if (4611686018427387903 : Int) < a1 then (4611686018427387903 : Int) else a1)].length ≤ 274877906944) (some (a0 ++ [IntKind.u8.wrap (if (4611686018427387903 : Int) < a1 then (4611686018427387903 : Int) else a1)]))) else (if (decide ((if (4611686018427387903 : Int) < a1 then (4611686018427387903 : Int) else a1) < (16384 : Int))) = true then (grd (a0.length + [orI .u8 (64 : Int) (IntKind.u8.wrap (shrI .u64 (if (4611686018427387903 : Int) < a1 then (4611686018427387903 : Int) else a1) (8 : Int))), IntKind.u8.wrap (if (4611686018427387903 : Int) < a1 then (4611686018427387903 : Int) else a1)].length ≤ 274877906944) (some (a0 ++ [orI .u8 (64 : Int) (IntKind.u8.wrap (shrI .u64 (if (4611686018427387903 : Int) < a1 then (4611686018427387903 : Int) else a1) (8 : Int))), IntKind.u8.wrap (if (4611686018427387903 : Int) < a1 then (4611686018427387903 : Int) else a1)]))) else (if (decide ((if (4611686018427387903 : Int) < a1 then (4611686018427387903 : Int) else a1) < (1073741824 : Int))) = true then (grd (a0.length + [orI .u8 (128 : Int) (IntKind.u8.wrap (shrI .u64 (if (4611686018427387903 : Int) < a1 then (4611686018427387903 : Int) else a1) (24 : Int))), IntKind.u8.wrap (shrI .u64 (if (4611686018427387903 : Int) < a1 then (4611686018427387903 : Int) else a1) (16 : Int)), IntKind.u8.wrap (shrI .u64 (if (4611686018427387903 : Int) < a1 then (4611686018427387903 : Int) else a1) (8 : Int)), IntKind.u8.wrap (if (4611686018427387903 : Int) < a1 then (4611686018427387903 : Int) else a1)].length ≤ 274877906944) (some (a0 ++ [orI .u8 (128 : Int) (IntKind.u8.wrap (shrI .u64 (if (4611686018427387903 : Int) < a1 then (4611686018427387903 : Int) else a1) (24 : Int))), IntKind.u8.wrap (shrI .u64 (if (4611686018427387903 : Int) < a1 then (4611686018427387903 : Int) else a1) (16 : Int)), IntKind.u8.wrap (shrI .u64 (if (4611686018427387903 : Int) < a1 then (4611686018427387903 : Int) else a1) (8 : Int)), IntKind.u8.wrap (if (4611686018427387903 : Int) < a1 then (4611686018427387903 : Int) else a1)]))) else (grd (a0.length + [orI .u8 (192 : Int) (IntKind.u8.wrap (shrI .u64 (if (4611686018427387903 : Int) < a1 then (4611686018427387903 : Int) else a1) (56 : Int))), IntKind.u8.wrap (shrI .u64 (if (4611686018427387903 : Int) < a1 then (4611686018427387903 : Int) else a1) (48 : Int)), IntKind.u8.wrap (shrI .u64 (if (4611686018427387903 : Int) < a1 then (4611686018427387903 : Int) else a1) (40 : Int)), IntKind.u8.wrap (shrI .u64 (if (4611686018427387903 : Int) < a1 then (4611686018427387903 : Int) else a1) (32 : Int)), IntKind.u8.wrap (shrI .u64 (if (4611686018427387903 : Int) < a1 then (4611686018427387903 : Int) else a1) (24 : Int)), IntKind.u8.wrap (shrI .u64 (if (4611686018427387903 : Int) < a1 then (4611686018427387903 : Int) else a1) (16 : Int)), IntKind.u8.wrap (shrI .u64 (if (4611686018427387903 : Int) < a1 then (4611686018427387903 : Int) else a1) (8 : Int)), IntKind.u8.wrap (if (4611686018427387903 : Int) < a1 then (4611686018427387903 : Int) else a1)].length ≤ 274877906944) (some (a0 ++ [orI .u8 (192 : Int) (IntKind.u8.wrap (shrI .u64 (if (4611686018427387903 : Int) < a1 then (4611686018427387903 : Int) else a1) (56 : Int))), IntKind.u8.wrap (shrI .u64 (if (4611686018427387903 : Int) < a1 then (4611686018427387903 : Int) else a1) (48 : Int)), IntKind.u8.wrap (shrI .u64 (if (4611686018427387903 : Int) < a1 then (4611686018427387903 : Int) else a1) (40 : Int)), IntKind.u8.wrap (shrI .u64 (if (4611686018427387903 : Int) < a1 then (4611686018427387903 : Int) else a1) (32 : Int)), IntKind.u8.wrap (shrI .u64 (if (4611686018427387903 : Int) < a1 then (4611686018427387903 : Int) else a1) (24 : Int)), IntKind.u8.wrap (shrI .u64 (if (4611686018427387903 : Int) < a1 then (4611686018427387903 : Int) else a1) (16 : Int)), IntKind.u8.wrap (shrI .u64 (if (4611686018427387903 : Int) < a1 then (4611686018427387903 : Int) else a1) (8 : Int)), IntKind.u8.wrap (if (4611686018427387903 : Int) < a1 then (4611686018427387903 : Int) else a1)]))))))
def f_wire_Num_post (a0 : (List Int)) (a1 : Int) (v0 : Value) : (List Int) → Value → IM → HL → Prop :=
  fun (r0 : (List Int)) (v : Value) (M' : IM) (H' : HL) => ∃ vz0 cz0, vz0 = v ∧ H' = [cz0] ∧ OwnS (Kd.int .u8) M' vz0 r0 cz0
theorem f_wire_Num_ok (a0 : (List Int)) (a1 : Int) (M : IM) (v0 : Value) (c0 : Chunk) (h0 : OwnS (Kd.int .u8) M v0 a0 c0) (res : (List Int)) (h : f_wire_Num a0 a1 = some res) :
    Tri Tryd.prog 78 #[v0, (.int .u64 a1)] M [c0] (f_wire_Num_post a0 a1 v0 res) := by
 unfold f_wire_Num at h
 refine Tri.enter (fn := Tryd.f78) Tryd.func78 rfl (Nat.le_of_ble_eq_true rfl) ?_
 intro F ρ hρ
 refine Sr ?_
 refine Pa (.slice none 0 0) rfl rfl ?_
 refine Ns ?_
 refine Pm (.int .u64 a1) (hρ 1) rfl ?_
 refine Pu (.int .u64 (if (4611686018427387903 : Int) < a1 then (4611686018427387903 : Int) else a1)) (PO.min rfl rfl) rfl ?_
 refine Pa (.int .u64 (if (4611686018427387903 : Int) < a1 then (4611686018427387903 : Int) else a1)) rfl rfl ?_
 refine Nt ?_
 refine WC.seq ?_
 refine WC.block ?_
 refine Sr ?_
 refine Pm (.int .u64 (if (4611686018427387903 : Int) < a1 then (4611686018427387903 : Int) else a1)) rfl rfl ?_
 refine Pu (.bool (decide ((if (4611686018427387903 : Int) < a1 then (4611686018427387903 : Int) else a1) < 64))) (PO.lss rfl rfl) rfl ?_
 refine Pa (.bool (decide ((if (4611686018427387903 : Int) < a1 then (4611686018427387903 : Int) else a1) < 64))) rfl rfl ?_
 refine Nt ?_
 refine WC.cond (b := decide ((if (4611686018427387903 : Int) < a1 then (4611686018427387903 : Int) else a1) < 64)) rfl (fun hb21 => ?_) (fun hb21 => ?_)
 have h := ite_t hb21 h
 refine Sr ?_
 refine Pm v0 (hρ 0) rfl ?_
 refine Pm (.int .u64 (if (4611686018427387903 : Int) < a1 then (4611686018427387903 : Int) else a1)) rfl rfl ?_
 refine Pu (.int .u8 (IntKind.u8.wrap (if (4611686018427387903 : Int) < a1 then (4611686018427387903 : Int) else a1))) (PO.conv us42 Tryd.underlying5 rfl) rfl ?_
 refine WL.eff (EO.buildSliceL (cl := [(.int .u8 (IntKind.u8.wrap (if (4611686018427387903 : Int) < a1 then (4611686018427387903 : Int) else a1)))]) Tryd.underlying26 iz5 rfl (Parts.cons (congrArg Value.cells (show ev _ _ = (.int .u8 (IntKind.u8.wrap (if (4611686018427387903 : Int) < a1 then (4611686018427387903 : Int) else a1))) from rfl)) Parts.nil) rfl) rfl ?_
 rintro _ _ _ - ⟨rfl, g22, rfl, rfl⟩
 have h24 : OwnS (Kd.int .u8) M (.slice (some ⟨g22, 0, none⟩) 1 1) [IntKind.u8.wrap (if (4611686018427387903 : Int) < a1 then (4611686018427387903 : Int) else a1)] [(g22, .cells #[(.int .u8 (IntKind.u8.wrap (if (4611686018427387903 : Int) < a1 then (4611686018427387903 : Int) else a1)))] 5 (0, 0))] := OwnS.rows (css := [[(.int .u8 (IntKind.u8.wrap (if (4611686018427387903 : Int) < a1 then (4611686018427387903 : Int) else a1)))]]) (Rows.cons rfl Rows.nil) rfl rfl
 obtain ⟨hg28, h⟩ := grd_i h
 refine WL.f1 ?_
 refine WL.eff (EO.append (dd := (Kd.int .u8)) (xs := a0) (ys := [IntKind.u8.wrap (if (4611686018427387903 : Int) < a1 then (4611686018427387903 : Int) else a1)]) Tryd.underlying26 Tryd.underlying26 in5 rfl (appB (by decide) hg28) (by decide) rfl rfl h0 (h24.src 1 rfl)) rfl ?_
 rintro v27 _ _ - ⟨rfl, c25, rfl, h26⟩
 refine Pa v27 rfl rfl ?_
 refine Nt ?_
 refine WC.ret ?_
 refine WQ.blockR ?_
 refine WQ.thenR ?_
 refine WQ.f1 ?_
 refine WQ.drop ?_
 exact WQ.returnsF h [c25] rfl (results1 rfl rfl) (IM.le.refl _) ⟨v27, c25, rfl, rfl, h26⟩
 have h := ite_f hb21 h
 refine Sr ?_
 refine Pm (.int .u64 (if (4611686018427387903 : Int) < a1 then (4611686018427387903 : Int) else a1)) rfl rfl ?_
 refine Pu (.bool (decide ((if (4611686018427387903 : Int) < a1 then (4611686018427387903 : Int) else a1) < 16384))) (PO.lss rfl rfl) rfl ?_
 refine Pa (.bool (decide ((if (4611686018427387903 : Int) < a1 then (4611686018427387903 : Int) else a1) < 16384))) rfl rfl ?_
 refine Nt ?_
 refine WC.cond (b := decide ((if (4611686018427387903 : Int) < a1 then (4611686018427387903 : Int) else a1) < 16384)) rfl (fun hb29 => ?_) (fun hb29 => ?_)
 have h := ite_t hb29 h
 refine Sr ?_
 refine Pm v0 (hρ 0) rfl ?_
 refine Pm (.int .u64 (if (4611686018427387903 : Int) < a1 then (4611686018427387903 : Int) else a1)) rfl rfl ?_
 refine Pu (.int .u64 (shrI .u64 (if (4611686018427387903 : Int) < a1 then (4611686018427387903 : Int) else a1) (8 : Int))) (PO.shr rfl rfl (by decide)) rfl ?_
 refine Pu (.int .u8 (IntKind.u8.wrap (shrI .u64 (if (4611686018427387903 : Int) < a1 then (4611686018427387903 : Int) else a1) (8 : Int)))) (PO.conv us42 Tryd.underlying5 rfl) rfl ?_
 refine Pu (.int .u8 (orI .u8 (64 : Int) (IntKind.u8.wrap (shrI .u64 (if (4611686018427387903 : Int) < a1 then (4611686018427387903 : Int) else a1) (8 : Int))))) (PO.or rfl rfl) rfl ?_
 refine Pm (.int .u64 (if (4611686018427387903 : Int) < a1 then (4611686018427387903 : Int) else a1)) rfl rfl ?_
 refine Pu (.int .u8 (IntKind.u8.wrap (if (4611686018427387903 : Int) < a1 then (4611686018427387903 : Int) else a1))) (PO.conv us42 Tryd.underlying5 rfl) rfl ?_
 refine WL.eff (EO.buildSliceL (cl := [(.int .u8 (orI .u8 (64 : Int) (IntKind.u8.wrap (shrI .u64 (if (4611686018427387903 : Int) < a1 then (4611686018427387903 : Int) else a1) (8 : Int))))), (.int .u8 (IntKind.u8.wrap (if (4611686018427387903 : Int) < a1 then (4611686018427387903 : Int) else a1)))]) Tryd.underlying26 iz5 rfl (Parts.cons (congrArg Value.cells (show ev _ _ = (.int .u8 (orI .u8 (64 : Int) (IntKind.u8.wrap (shrI .u64 (if (4611686018427387903 : Int) < a1 then (4611686018427387903 : Int) else a1) (8 : Int))))) from rfl)) (Parts.cons (congrArg Value.cells (show ev _ _ = (.int .u8 (IntKind.u8.wrap (if (4611686018427387903 : Int) < a1 then (4611686018427387903 : Int) else a1))) from rfl)) Parts.nil)) rfl) rfl ?_
 rintro _ _ _ - ⟨rfl, g30, rfl, rfl⟩
 have h32 : OwnS (Kd.int .u8) M (.slice (some ⟨g30, 0, none⟩) 2 2) [orI .u8 (64 : Int) (IntKind.u8.wrap (shrI .u64 (if (4611686018427387903 : Int) < a1 then (4611686018427387903 : Int) else a1) (8 : Int))), IntKind.u8.wrap (if (4611686018427387903 : Int) < a1 then (4611686018427387903 : Int) else a1)] [(g30, .cells #[(.int .u8 (orI .u8 (64 : Int) (IntKind.u8.wrap (shrI .u64 (if (4611686018427387903 : Int) < a1 then (4611686018427387903 : Int) else a1) (8 : Int))))), (.int .u8 (IntKind.u8.wrap (if (4611686018427387903 : Int) < a1 then (4611686018427387903 : Int) else a1)))] 5 (0, 0))] := OwnS.rows (css := [[(.int .u8 (orI .u8 (64 : Int) (IntKind.u8.wrap (shrI .u64 (if (4611686018427387903 : Int) < a1 then (4611686018427387903 : Int) else a1) (8 : Int)))))], [(.int .u8 (IntKind.u8.wrap (if (4611686018427387903 : Int) < a1 then (4611686018427387903 : Int) else a1)))]]) (Rows.cons rfl (Rows.cons rfl Rows.nil)) rfl rfl
 obtain ⟨hg36, h⟩ := grd_i h
 refine WL.f1 ?_
 refine WL.eff (EO.append (dd := (Kd.int .u8)) (xs := a0) (ys := [orI .u8 (64 : Int) (IntKind.u8.wrap (shrI .u64 (if (4611686018427387903 : Int) < a1 then (4611686018427387903 : Int) else a1) (8 : Int))), IntKind.u8.wrap (if (4611686018427387903 : Int) < a1 then (4611686018427387903 : Int) else a1)]) Tryd.underlying26 Tryd.underlying26 in5 rfl (appB (by decide) hg36) (by decide) rfl rfl h0 (h32.src 1 rfl)) rfl ?_
 rintro v35 _ _ - ⟨rfl, c33, rfl, h34⟩
 refine Pa v35 rfl rfl ?_
 refine Nt ?_
 refine WC.ret ?_
 refine WQ.blockR ?_
 refine WQ.thenR ?_
 refine WQ.f1 ?_
 refine WQ.drop ?_
 exact WQ.returnsF h [c33] rfl (results1 rfl rfl) (IM.le.refl _) ⟨v35, c33, rfl, rfl, h34⟩
 have h := ite_f hb29 h
 refine Sr ?_
 refine Pm (.int .u64 (if (4611686018427387903 : Int) < a1 then (4611686018427387903 : Int) else a1)) rfl rfl ?_
 refine Pu (.bool (decide ((if (4611686018427387903 : Int) < a1 then (4611686018427387903 : Int) else a1) < 1073741824))) (PO.lss rfl rfl) rfl ?_
 refine Pa (.bool (decide ((if (4611686018427387903 : Int) < a1 then (4611686018427387903 : Int) else a1) < 1073741824))) rfl rfl ?_
 refine Nt ?_
 refine WC.cond (b := decide ((if (4611686018427387903 : Int) < a1 then (4611686018427387903 : Int) else a1) < 1073741824)) rfl (fun hb37 => ?_) (fun hb37 => ?_)
 have h := ite_t hb37 h
 refine Sr ?_
 refine Pm v0 (hρ 0) rfl ?_
 refine Pm (.int .u64 (if (4611686018427387903 : Int) < a1 then (4611686018427387903 : Int) else a1)) rfl rfl ?_
 refine Pu (.int .u64 (shrI .u64 (if (4611686018427387903 : Int) < a1 then (4611686018427387903 : Int) else a1) (24 : Int))) (PO.shr rfl rfl (by decide)) rfl ?_
 refine Pu (.int .u8 (IntKind.u8.wrap (shrI .u64 (if (4611686018427387903 : Int) < a1 then (4611686018427387903 : Int) else a1) (24 : Int)))) (PO.conv us42 Tryd.underlying5 rfl) rfl ?_
 refine Pu (.int .u8 (orI .u8 (128 : Int) (IntKind.u8.wrap (shrI .u64 (if (4611686018427387903 : Int) < a1 then (4611686018427387903 : Int) else a1) (24 : Int))))) (PO.or rfl rfl) rfl ?_
 refine Pm (.int .u64 (if (4611686018427387903 : Int) < a1 then (4611686018427387903 : Int) else a1)) rfl rfl ?_
 refine Pu (.int .u64 (shrI .u64 (if (4611686018427387903 : Int) < a1 then (4611686018427387903 : Int) else a1) (16 : Int))) (PO.shr rfl rfl (by decide)) rfl ?_
 refine Pu (.int .u8 (IntKind.u8.wrap (shrI .u64 (if (4611686018427387903 : Int) < a1 then (4611686018427387903 : Int) else a1) (16 : Int)))) (PO.conv us42 Tryd.underlying5 rfl) rfl ?_
 refine Pm (.int .u64 (if (4611686018427387903 : Int) < a1 then (4611686018427387903 : Int) else a1)) rfl rfl ?_
 refine Pu (.int .u64 (shrI .u64 (if (4611686018427387903 : Int) < a1 then (4611686018427387903 : Int) else a1) (8 : Int))) (PO.shr rfl rfl (by decide)) rfl ?_
 refine Pu (.int .u8 (IntKind.u8.wrap (shrI .u64 (if (4611686018427387903 : Int) < a1 then (4611686018427387903 : Int) else a1) (8 : Int)))) (PO.conv us42 Tryd.underlying5 rfl) rfl ?_
 refine Pm (.int .u64 (if (4611686018427387903 : Int) < a1 then (4611686018427387903 : Int) else a1)) rfl rfl ?_
 refine Pu (.int .u8 (IntKind.u8.wrap (if (4611686018427387903 : Int) < a1 then (4611686018427387903 : Int) else a1))) (PO.conv us42 Tryd.underlying5 rfl) rfl ?_
 refine WL.eff (EO.buildSliceL (cl := [(.int .u8 (orI .u8 (128 : Int) (IntKind.u8.wrap (shrI .u64 (if (4611686018427387903 : Int) < a1 then (4611686018427387903 : Int) else a1) (24 : Int))))), (.int .u8 (IntKind.u8.wrap (shrI .u64 (if (4611686018427387903 : Int) < a1 then (4611686018427387903 : Int) else a1) (16 : Int)))), (.int .u8 (IntKind.u8.wrap (shrI .u64 (if (4611686018427387903 : Int) < a1 then (4611686018427387903 : Int) else a1) (8 : Int)))), (.int .u8 (IntKind.u8.wrap (if (4611686018427387903 : Int) < a1 then (4611686018427387903 : Int) else a1)))]) Tryd.underlying26 iz5 rfl (Parts.cons (congrArg Value.cells (show ev _ _ = (.int .u8 (orI .u8 (128 : Int) (IntKind.u8.wrap (shrI .u64 (if (4611686018427387903 : Int) < a1 then (4611686018427387903 : Int) else a1) (24 : Int))))) from rfl)) (Parts.cons (congrArg Value.cells (show ev _ _ = (.int .u8 (IntKind.u8.wrap (shrI .u64 (if (4611686018427387903 : Int) < a1 then (4611686018427387903 : Int) else a1) (16 : Int)))) from rfl)) (Parts.cons (congrArg Value.cells (show ev _ _ = (.int .u8 (IntKind.u8.wrap (shrI .u64 (if (4611686018427387903 : Int) < a1 then (4611686018427387903 : Int) else a1) (8 : Int)))) from rfl)) (Parts.cons (congrArg Value.cells (show ev _ _ = (.int .u8 (IntKind.u8.wrap (if (4611686018427387903 : Int) < a1 then (4611686018427387903 : Int) else a1))) from rfl)) Parts.nil)))) rfl) rfl ?_
 rintro _ _ _ - ⟨rfl, g38, rfl, rfl⟩
 have h40 : OwnS (Kd.int .u8) M (.slice (some ⟨g38, 0, none⟩) 4 4) [orI .u8 (128 : Int) (IntKind.u8.wrap (shrI .u64 (if (4611686018427387903 : Int) < a1 then (4611686018427387903 : Int) else a1) (24 : Int))), IntKind.u8.wrap (shrI .u64 (if (4611686018427387903 : Int) < a1 then (4611686018427387903 : Int) else a1) (16 : Int)), IntKind.u8.wrap (shrI .u64 (if (4611686018427387903 : Int) < a1 then (4611686018427387903 : Int) else a1) (8 : Int)), IntKind.u8.wrap (if (4611686018427387903 : Int) < a1 then (4611686018427387903 : Int) else a1)] [(g38, .cells #[(.int .u8 (orI .u8 (128 : Int) (IntKind.u8.wrap (shrI .u64 (if (4611686018427387903 : Int) < a1 then (4611686018427387903 : Int) else a1) (24 : Int))))), (.int .u8 (IntKind.u8.wrap (shrI .u64 (if (4611686018427387903 : Int) < a1 then (4611686018427387903 : Int) else a1) (16 : Int)))), (.int .u8 (IntKind.u8.wrap (shrI .u64 (if (4611686018427387903 : Int) < a1 then (4611686018427387903 : Int) else a1) (8 : Int)))), (.int .u8 (IntKind.u8.wrap (if (4611686018427387903 : Int) < a1 then (4611686018427387903 : Int) else a1)))] 5 (0, 0))] := OwnS.rows (css := [[(.int .u8 (orI .u8 (128 : Int) (IntKind.u8.wrap (shrI .u64 (if (4611686018427387903 : Int) < a1 then (4611686018427387903 : Int) else a1) (24 : Int)))))], [(.int .u8 (IntKind.u8.wrap (shrI .u64 (if (4611686018427387903 : Int) < a1 then (4611686018427387903 : Int) else a1) (16 : Int))))], [(.int .u8 (IntKind.u8.wrap (shrI .u64 (if (4611686018427387903 : Int) < a1 then (4611686018427387903 : Int) else a1) (8 : Int))))], [(.int .u8 (IntKind.u8.wrap (if (4611686018427387903 : Int) < a1 then (4611686018427387903 : Int) else a1)))]]) (Rows.cons rfl (Rows.cons rfl (Rows.cons rfl (Rows.cons rfl Rows.nil)))) rfl rfl
 obtain ⟨hg44, h⟩ := grd_i h
 refine WL.f1 ?_
 refine WL.eff (EO.append (dd := (Kd.int .u8)) (xs := a0) (ys := [orI .u8 (128 : Int) (IntKind.u8.wrap (shrI .u64 (if (4611686018427387903 : Int) < a1 then (4611686018427387903 : Int) else a1) (24 : Int))), IntKind.u8.wrap (shrI .u64 (if (4611686018427387903 : Int) < a1 then (4611686018427387903 : Int) else a1) (16 : Int)), IntKind.u8.wrap (shrI .u64 (if (4611686018427387903 : Int) < a1 then (4611686018427387903 : Int) else a1) (8 : Int)), IntKind.u8.wrap (if (4611686018427387903 : Int) < a1 then (4611686018427387903 : Int) else a1)]) Tryd.underlying26 Tryd.underlying26 in5 rfl (appB (by decide) hg44) (by decide) rfl rfl h0 (h40.src 1 rfl)) rfl ?_
 rintro v43 _ _ - ⟨rfl, c41, rfl, h42⟩
 refine Pa v43 rfl rfl ?_
 refine Nt ?_
 refine WC.ret ?_
 refine WQ.blockR ?_
 refine WQ.thenR ?_
 refine WQ.f1 ?_
 refine WQ.drop ?_
 exact WQ.returnsF h [c41] rfl (results1 rfl rfl) (IM.le.refl _) ⟨v43, c41, rfl, rfl, h42⟩
 have h := ite_f hb37 h
 refine WC.skip ?_
 refine WQ.blockN ?_
 refine WQ.thenC ?_
 refine Sr ?_
 refine Pm v0 (hρ 0) rfl ?_
 refine Pm (.int .u64 (if (4611686018427387903 : Int) < a1 then (4611686018427387903 : Int) else a1)) rfl rfl ?_
 refine Pu (.int .u64 (shrI .u64 (if (4611686018427387903 : Int) < a1 then (4611686018427387903 : Int) else a1) (56 : Int))) (PO.shr rfl rfl (by decide)) rfl ?_
 refine Pu (.int .u8 (IntKind.u8.wrap (shrI .u64 (if (4611686018427387903 : Int) < a1 then (4611686018427387903 : Int) else a1) (56 : Int)))) (PO.conv us42 Tryd.underlying5 rfl) rfl ?_
 refine Pu (.int .u8 (orI .u8 (192 : Int) (IntKind.u8.wrap (shrI .u64 (if (4611686018427387903 : Int) < a1 then (4611686018427387903 : Int) else a1) (56 : Int))))) (PO.or rfl rfl) rfl ?_
 refine Pm (.int .u64 (if (4611686018427387903 : Int) < a1 then (4611686018427387903 : Int) else a1)) rfl rfl ?_
 refine Pu (.int .u64 (shrI .u64 (if (4611686018427387903 : Int) < a1 then (4611686018427387903 : Int) else a1) (48 : Int))) (PO.shr rfl rfl (by decide)) rfl ?_
 refine Pu (.int .u8 (IntKind.u8.wrap (shrI .u64 (if (4611686018427387903 : Int) < a1 then (4611686018427387903 : Int) else a1) (48 : Int)))) (PO.conv us42 Tryd.underlying5 rfl) rfl ?_
 refine Pm (.int .u64 (if (4611686018427387903 : Int) < a1 then (4611686018427387903 : Int) else a1)) rfl rfl ?_
 refine Pu (.int .u64 (shrI .u64 (if (4611686018427387903 : Int) < a1 then (4611686018427387903 : Int) else a1) (40 : Int))) (PO.shr rfl rfl (by decide)) rfl ?_
 refine Pu (.int .u8 (IntKind.u8.wrap (shrI .u64 (if (4611686018427387903 : Int) < a1 then (4611686018427387903 : Int) else a1) (40 : Int)))) (PO.conv us42 Tryd.underlying5 rfl) rfl ?_
 refine Pm (.int .u64 (if (4611686018427387903 : Int) < a1 then (4611686018427387903 : Int) else a1)) rfl rfl ?_
 refine Pu (.int .u64 (shrI .u64 (if (4611686018427387903 : Int) < a1 then (4611686018427387903 : Int) else a1) (32 : Int))) (PO.shr rfl rfl (by decide)) rfl ?_
 refine Pu (.int .u8 (IntKind.u8.wrap (shrI .u64 (if (4611686018427387903 : Int) < a1 then (4611686018427387903 : Int) else a1) (32 : Int)))) (PO.conv us42 Tryd.underlying5 rfl) rfl ?_
 refine Pm (.int .u64 (if (4611686018427387903 : Int) < a1 then (4611686018427387903 : Int) else a1)) rfl rfl ?_
 refine Pu (.int .u64 (shrI .u64 (if (4611686018427387903 : Int) < a1 then (4611686018427387903 : Int) else a1) (24 : Int))) (PO.shr rfl rfl (by decide)) rfl ?_
 refine Pu (.int .u8 (IntKind.u8.wrap (shrI .u64 (if (4611686018427387903 : Int) < a1 then (4611686018427387903 : Int) else a1) (24 : Int)))) (PO.conv us42 Tryd.underlying5 rfl) rfl ?_
 refine Pm (.int .u64 (if (4611686018427387903 : Int) < a1 then (4611686018427387903 : Int) else a1)) rfl rfl ?_
 refine Pu (.int .u64 (shrI .u64 (if (4611686018427387903 : Int) < a1 then (4611686018427387903 : Int) else a1) (16 : Int))) (PO.shr rfl rfl (by decide)) rfl ?_
 refine Pu (.int .u8 (IntKind.u8.wrap (shrI .u64 (if (4611686018427387903 : Int) < a1 then (4611686018427387903 : Int) else a1) (16 : Int)))) (PO.conv us42 Tryd.underlying5 rfl) rfl ?_
 refine Pm (.int .u64 (if (4611686018427387903 : Int) < a1 then (4611686018427387903 : Int) else a1)) rfl rfl ?_
 refine Pu (.int .u64 (shrI .u64 (if (4611686018427387903 : Int) < a1 then (4611686018427387903 : Int) else a1) (8 : Int))) (PO.shr rfl rfl (by decide)) rfl ?_
 refine Pu (.int .u8 (IntKind.u8.wrap (shrI .u64 (if (4611686018427387903 : Int) < a1 then (4611686018427387903 : Int) else a1) (8 : Int)))) (PO.conv us42 Tryd.underlying5 rfl) rfl ?_
 refine Pm (.int .u64 (if (4611686018427387903 : Int) < a1 then (4611686018427387903 : Int) else a1)) rfl rfl ?_
 refine Pu (.int .u8 (IntKind.u8.wrap (if (4611686018427387903 : Int) < a1 then (4611686018427387903 : Int) else a1))) (PO.conv us42 Tryd.underlying5 rfl) rfl ?_
 refine WL.eff (EO.buildSliceL (cl := [(.int .u8 (orI .u8 (192 : Int) (IntKind.u8.wrap (shrI .u64 (if (4611686018427387903 : Int) < a1 then (4611686018427387903 : Int) else a1) (56 : Int))))), (.int .u8 (IntKind.u8.wrap (shrI .u64 (if (4611686018427387903 : Int) < a1 then (4611686018427387903 : Int) else a1) (48 : Int)))), (.int .u8 (IntKind.u8.wrap (shrI .u64 (if (4611686018427387903 : Int) < a1 then (4611686018427387903 : Int) else a1) (40 : Int)))), (.int .u8 (IntKind.u8.wrap (shrI .u64 (if (4611686018427387903 : Int) < a1 then (4611686018427387903 : Int) else a1) (32 : Int)))), (.int .u8 (IntKind.u8.wrap (shrI .u64 (if (4611686018427387903 : Int) < a1 then (4611686018427387903 : Int) else a1) (24 : Int)))), (.int .u8 (IntKind.u8.wrap (shrI .u64 (if (4611686018427387903 : Int) < a1 then (4611686018427387903 : Int) else a1) (16 : Int)))), (.int .u8 (IntKind.u8.wrap (shrI .u64 (if (4611686018427387903 : Int) < a1 then (4611686018427387903 : Int) else a1) (8 : Int)))), (.int .u8 (IntKind.u8.wrap (if (4611686018427387903 : Int) < a1 then (4611686018427387903 : Int) else a1)))]) Tryd.underlying26 iz5 rfl (Parts.cons (congrArg Value.cells (show ev _ _ = (.int .u8 (orI .u8 (192 : Int) (IntKind.u8.wrap (shrI .u64 (if (4611686018427387903 : Int) < a1 then (4611686018427387903 : Int) else a1) (56 : Int))))) from rfl)) (Parts.cons (congrArg Value.cells (show ev _ _ = (.int .u8 (IntKind.u8.wrap (shrI .u64 (if (4611686018427387903 : Int) < a1 then (4611686018427387903 : Int) else a1) (48 : Int)))) from rfl)) (Parts.cons (congrArg Value.cells (show ev _ _ = (.int .u8 (IntKind.u8.wrap (shrI .u64 (if (4611686018427387903 : Int) < a1 then (4611686018427387903 : Int) else a1) (40 : Int)))) from rfl)) (Parts.cons (congrArg Value.cells (show ev _ _ = (.int .u8 (IntKind.u8.wrap (shrI .u64 (if (4611686018427387903 : Int) < a1 then (4611686018427387903 : Int) else a1) (32 : Int)))) from rfl)) (Parts.cons (congrArg Value.cells (show ev _ _ = (.int .u8 (IntKind.u8.wrap (shrI .u64 (if (4611686018427387903 : Int) < a1 then (4611686018427387903 : Int) else a1) (24 : Int)))) from rfl)) (Parts.cons (congrArg Value.cells (show ev _ _ = (.int .u8 (IntKind.u8.wrap (shrI .u64 (if (4611686018427387903 : Int) < a1 then (4611686018427387903 : Int) else a1) (16 : Int)))) from rfl)) (Parts.cons (congrArg Value.cells (show ev _ _ = (.int .u8 (IntKind.u8.wrap (shrI .u64 (if (4611686018427387903 : Int) < a1 then (4611686018427387903 : Int) else a1) (8 : Int)))) from rfl)) (Parts.cons (congrArg Value.cells (show ev _ _ = (.int .u8 (IntKind.u8.wrap (if (4611686018427387903 : Int) < a1 then (4611686018427387903 : Int) else a1))) from rfl)) Parts.nil)))))))) rfl) rfl ?_
 rintro _ _ _ - ⟨rfl, g45, rfl, rfl⟩
 have h47 : OwnS (Kd.int .u8) M (.slice (some ⟨g45, 0, none⟩) 8 8) [orI .u8 (192 : Int) (IntKind.u8.wrap (shrI .u64 (if (4611686018427387903 : Int) < a1 then (4611686018427387903 : Int) else a1) (56 : Int))), IntKind.u8.wrap (shrI .u64 (if (4611686018427387903 : Int) < a1 then (4611686018427387903 : Int) else a1) (48 : Int)), IntKind.u8.wrap (shrI .u64 (if (4611686018427387903 : Int) < a1 then (4611686018427387903 : Int) else a1) (40 : Int)), IntKind.u8.wrap (shrI .u64 (if (4611686018427387903 : Int) < a1 then (4611686018427387903 : Int) else a1) (32 : Int)), IntKind.u8.wrap (shrI .u64 (if (4611686018427387903 : Int) < a1 then (4611686018427387903 : Int) else a1) (24 : Int)), IntKind.u8.wrap (shrI .u64 (if (4611686018427387903 : Int) < a1 then (4611686018427387903 : Int) else a1) (16 : Int)), IntKind.u8.wrap (shrI .u64 (if (4611686018427387903 : Int) < a1 then (4611686018427387903 : Int) else a1) (8 : Int)), IntKind.u8.wrap (if (4611686018427387903 : Int) < a1 then (4611686018427387903 : Int) else a1)] [(g45, .cells #[(.int .u8 (orI .u8 (192 : Int) (IntKind.u8.wrap (shrI .u64 (if (4611686018427387903 : Int) < a1 then (4611686018427387903 : Int) else a1) (56 : Int))))), (.int .u8 (IntKind.u8.wrap (shrI .u64 (if (4611686018427387903 : Int) < a1 then (4611686018427387903 : Int) else a1) (48 : Int)))), (.int .u8 (IntKind.u8.wrap (shrI .u64 (if (4611686018427387903 : Int) < a1 then (4611686018427387903 : Int) else a1) (40 : Int)))), (.int .u8 (IntKind.u8.wrap (shrI .u64 (if (4611686018427387903 : Int) < a1 then (4611686018427387903 : Int) else a1) (32 : Int)))), (.int .u8 (IntKind.u8.wrap (shrI .u64 (if (4611686018427387903 : Int) < a1 then (4611686018427387903 : Int) else a1) (24 : Int)))), (.int .u8 (IntKind.u8.wrap (shrI .u64 (if (4611686018427387903 : Int) < a1 then (4611686018427387903 : Int) else a1) (16 : Int)))), (.int .u8 (IntKind.u8.wrap (shrI .u64 (if (4611686018427387903 : Int) < a1 then (4611686018427387903 : Int) else a1) (8 : Int)))), (.int .u8 (IntKind.u8.wrap (if (4611686018427387903 : Int) < a1 then (4611686018427387903 : Int) else a1)))] 5 (0, 0))] := OwnS.rows (css := [[(.int .u8 (orI .u8 (192 : Int) (IntKind.u8.wrap (shrI .u64 (if (4611686018427387903 : Int) < a1 then (4611686018427387903 : Int) else a1) (56 : Int)))))], [(.int .u8 (IntKind.u8.wrap (shrI .u64 (if (4611686018427387903 : Int) < a1 then (4611686018427387903 : Int) else a1) (48 : Int))))], [(.int .u8 (IntKind.u8.wrap (shrI .u64 (if (4611686018427387903 : Int) < a1 then (4611686018427387903 : Int) else a1) (40 : Int))))], [(.int .u8 (IntKind.u8.wrap (shrI .u64 (if (4611686018427387903 : Int) < a1 then (4611686018427387903 : Int) else a1) (32 : Int))))], [(.int .u8 (IntKind.u8.wrap (shrI .u64 (if (4611686018427387903 : Int) < a1 then (4611686018427387903 : Int) else a1) (24 : Int))))], [(.int .u8 (IntKind.u8.wrap (shrI .u64 (if (4611686018427387903 : Int) < a1 then (4611686018427387903 : Int) else a1) (16 : Int))))], [(.int .u8 (IntKind.u8.wrap (shrI .u64 (if (4611686018427387903 : Int) < a1 then (4611686018427387903 : Int) else a1) (8 : Int))))], [(.int .u8 (IntKind.u8.wrap (if (4611686018427387903 : Int) < a1 then (4611686018427387903 : Int) else a1)))]]) (Rows.cons rfl (Rows.cons rfl (Rows.cons rfl (Rows.cons rfl (Rows.cons rfl (Rows.cons rfl (Rows.cons rfl (Rows.cons rfl Rows.nil)))))))) rfl rfl
 obtain ⟨hg51, h⟩ := grd_i h
 refine WL.f1 ?_
 refine WL.eff (EO.append (dd := (Kd.int .u8)) (xs := a0) (ys := [orI .u8 (192 : Int) (IntKind.u8.wrap (shrI .u64 (if (4611686018427387903 : Int) < a1 then (4611686018427387903 : Int) else a1) (56 : Int))), IntKind.u8.wrap (shrI .u64 (if (4611686018427387903 : Int) < a1 then (4611686018427387903 : Int) else a1) (48 : Int)), IntKind.u8.wrap (shrI .u64 (if (4611686018427387903 : Int) < a1 then (4611686018427387903 : Int) else a1) (40 : Int)), IntKind.u8.wrap (shrI .u64 (if (4611686018427387903 : Int) < a1 then (4611686018427387903 : Int) else a1) (32 : Int)), IntKind.u8.wrap (shrI .u64 (if (4611686018427387903 : Int) < a1 then (4611686018427387903 : Int) else a1) (24 : Int)), IntKind.u8.wrap (shrI .u64 (if (4611686018427387903 : Int) < a1 then (4611686018427387903 : Int) else a1) (16 : Int)), IntKind.u8.wrap (shrI .u64 (if (4611686018427387903 : Int) < a1 then (4611686018427387903 : Int) else a1) (8 : Int)), IntKind.u8.wrap (if (4611686018427387903 : Int) < a1 then (4611686018427387903 : Int) else a1)]) Tryd.underlying26 Tryd.underlying26 in5 rfl (appB (by decide) hg51) (by decide) rfl rfl h0 (h47.src 1 rfl)) rfl ?_
 rintro v50 _ _ - ⟨rfl, c48, rfl, h49⟩
 refine Pa v50 rfl rfl ?_
 refine Nt ?_
 refine WC.ret ?_
 refine WQ.f1 ?_
 refine WQ.drop ?_
 exact WQ.returnsF h [c48] rfl (results1 rfl rfl) (IM.le.refl _) ⟨v50, c48, rfl, rfl, h49⟩

noncomputable def f_wire_Int (a0 : (List Int)) (a1 : Int) : Option (List Int) :=
  ((f_wire_Num a0 (IntKind.u64.wrap (if a1 < (0 : Int) then (0 : Int) else a1))).bind fun (r21 : (List Int)) => (some r21))
def f_wire_Int_post (a0 : (List Int)) (a1 : Int) (v0 : Value) : (List Int) → Value → IM → HL → Prop :=
  fun (r0 : (List Int)) (v : Value) (M' : IM) (H' : HL) => ∃ vz0 cz0, vz0 = v ∧ H' = [cz0] ∧ OwnS (Kd.int .u8) M' vz0 r0 cz0
theorem f_wire_Int_ok (a0 : (List Int)) (a1 : Int) (M : IM) (v0 : Value) (c0 : Chunk) (h0 : OwnS (Kd.int .u8) M v0 a0 c0) (res : (List Int)) (h : f_wire_Int a0 a1 = some res) :
    Tri Tryd.prog 52 #[v0, (.int .i64 a1)] M [c0] (f_wire_Int_post a0 a1 v0 res) := by
 unfold f_wire_Int at h
 refine Tri.enter (fn := Tryd.f52) Tryd.func52 rfl (Nat.le_of_ble_eq_true rfl) ?_
 intro F ρ hρ
 refine Sr ?_
 refine Pa (.slice none 0 0) rfl rfl ?_
 refine Ns ?_
 refine Pm v0 (hρ 0) rfl ?_
 refine Pm (.int .i64 a1) (hρ 1) rfl ?_
 refine Pu (.int .i64 (if a1 < 0 then (0 : Int) else a1)) (PO.max rfl rfl) rfl ?_
 refine Pu (.int .u64 (IntKind.u64.wrap (if a1 < 0 then (0 : Int) else a1))) (PO.conv us3 Tryd.underlying42 rfl) rfl ?_
 obtain ⟨r21, hr22, h⟩ := bnd h
 refine WL.eff (EO.call1 co78 (f_wire_Num_ok a0 (IntKind.u64.wrap (if a1 < 0 then (0 : Int) else a1)) _ _ _ h0 r21 hr22) (args2 rfl rfl)) rfl ?_
 rintro _ M23 _ hle24 ⟨_, ⟨vq25, cq25, rfl, rfl, hq25⟩, rfl⟩
 have h0 := h0.mono hle24
 refine WL.a1 ?_
 refine Pa vq25 rfl rfl ?_
 refine Nt ?_
 refine WC.ret ?_
 exact WQ.returnsF h [cq25] rfl (results1 rfl rfl) hle24 ⟨vq25, cq25, rfl, rfl, hq25⟩

noncomputable def f_wire_Text (a0 : (List Int)) (a1 : (List Int)) : Option (List Int) :=
  ((f_wire_Int a0 (a1.length : Int)).bind fun (r21 : (List Int)) => (grd (r21.length + a1.length ≤ 274877906944) (some (r21 ++ a1))))
def f_wire_Text_post (a0 : (List Int)) (a1 : (List Int)) (v0 v1 : Value) : (List Int) → Value → IM → HL → Prop :=
  fun (r0 : (List Int)) (v : Value) (M' : IM) (H' : HL) => ∃ vz0 cz0, vz0 = v ∧ H' = [cz0] ∧ OwnS (Kd.int .u8) M' vz0 r0 cz0
theorem f_wire_Text_ok (a0 : (List Int)) (a1 : (List Int)) (M : IM) (v0 v1 : Value) (c0 : Chunk) (h0 : OwnS (Kd.int .u8) M v0 a0 c0) (h1 : RS (Kd.int .u8) M v1 a1) (res : (List Int)) (h : f_wire_Text a0 a1 = some res) :
    Tri Tryd.prog 39 #[v0, v1] M [c0] (f_wire_Text_post a0 a1 v0 v1 res) := by
 unfold f_wire_Text at h
 refine Tri.enter (fn := Tryd.f39) Tryd.func39 rfl (Nat.le_of_ble_eq_true rfl) ?_
 intro F ρ hρ
 refine Sr ?_
 refine Pa (.slice none 0 0) rfl rfl ?_
 refine Ns ?_
 refine Pm v0 (hρ 0) rfl ?_
 refine Pm v1 (hρ 1) rfl ?_
 refine Pu (.int .i64 (a1.length : Int)) (PO.lenS Tryd.underlying26 rfl h1.len) rfl ?_
 obtain ⟨r21, hr22, h⟩ := bnd h
 refine WL.eff (EO.call1 co52 (f_wire_Int_ok a0 (a1.length : Int) _ _ _ h0 r21 hr22) (args2 rfl rfl)) rfl ?_
 rintro _ M23 _ hle24 ⟨_, ⟨vq25, cq25, rfl, rfl, hq25⟩, rfl⟩
 have h0 := h0.mono hle24
 have h1 := h1.mono hle24
 refine WL.a1 ?_
 refine Pm v1 (hρ 1) rfl ?_
 obtain ⟨hg29, h⟩ := grd_i h
 refine WL.eff (EO.append (dd := (Kd.int .u8)) (xs := r21) (ys := a1) Tryd.underlying26 Tryd.underlying26 in5 rfl (appB (by decide) hg29) (by decide) rfl rfl hq25 (h1.src _)) rfl ?_
 rintro v28 _ _ - ⟨rfl, c26, rfl, h27⟩
 refine Pa v28 rfl rfl ?_
 refine Nt ?_
 refine WC.ret ?_
 exact WQ.returnsF h [c26] rfl (results1 rfl rfl) hle24 ⟨v28, c26, rfl, rfl, h27⟩

noncomputable def f_crc_half (a0 : Int) : Option Int :=
  (grd (0 ≤ andI .u32 a0 (15 : Int) ∧ andI .u32 a0 (15 : Int) < (16 : Int)) (some (rd [(0 : Int), (274646895 : Int), (549293790 : Int), (820201905 : Int), (1098587580 : Int), (1361435347 : Int), (1640403810 : Int), (1905808397 : Int), (2197175160 : Int), (2460548119 : Int), (2722870694 : Int), (2987750089 : Int), (3280807620 : Int), (3553878443 : Int), (3811616794 : Int), (4084100981 : Int)] (andI .u32 a0 (15 : Int)))))
def f_crc_half_post (a0 : Int) : Int → Value → IM → HL → Prop :=
  fun (r0 : Int) (v : Value) (M' : IM) (H' : HL) => (.int .u32 r0) = v ∧ H' = []
theorem f_crc_half_ok (a0 : Int) (M : IM) (res : Int) (h : f_crc_half a0 = some res) :
    Tri Tryd.prog 114 #[(.int .u32 a0)] M [] (f_crc_half_post a0 res) := by
 unfold f_crc_half at h
 refine Tri.enter (fn := Tryd.f114) Tryd.func114 rfl (Nat.le_of_ble_eq_true rfl) ?_
 intro F ρ hρ
 refine Sr ?_
 refine Pa (.int .u32 0) rfl rfl ?_
 refine Ns ?_
 refine Pu (.agg #[(.int .u32 0), (.int .u32 274646895), (.int .u32 549293790), (.int .u32 820201905), (.int .u32 1098587580), (.int .u32 1361435347), (.int .u32 1640403810), (.int .u32 1905808397), (.int .u32 2197175160), (.int .u32 2460548119), (.int .u32 2722870694), (.int .u32 2987750089), (.int .u32 3280807620), (.int .u32 3553878443), (.int .u32 3811616794), (.int .u32 4084100981)]) (PO.buildAL (cl := [(.int .u32 0), (.int .u32 274646895), (.int .u32 549293790), (.int .u32 820201905), (.int .u32 1098587580), (.int .u32 1361435347), (.int .u32 1640403810), (.int .u32 1905808397), (.int .u32 2197175160), (.int .u32 2460548119), (.int .u32 2722870694), (.int .u32 2987750089), (.int .u32 3280807620), (.int .u32 3553878443), (.int .u32 3811616794), (.int .u32 4084100981)]) ze193 Tryd.underlying193 sz73 (Parts.cons (congrArg Value.cells (show ev _ _ = (.int .u32 0) from rfl)) (Parts.cons (congrArg Value.cells (show ev _ _ = (.int .u32 274646895) from rfl)) (Parts.cons (congrArg Value.cells (show ev _ _ = (.int .u32 549293790) from rfl)) (Parts.cons (congrArg Value.cells (show ev _ _ = (.int .u32 820201905) from rfl)) (Parts.cons (congrArg Value.cells (show ev _ _ = (.int .u32 1098587580) from rfl)) (Parts.cons (congrArg Value.cells (show ev _ _ = (.int .u32 1361435347) from rfl)) (Parts.cons (congrArg Value.cells (show ev _ _ = (.int .u32 1640403810) from rfl)) (Parts.cons (congrArg Value.cells (show ev _ _ = (.int .u32 1905808397) from rfl)) (Parts.cons (congrArg Value.cells (show ev _ _ = (.int .u32 2197175160) from rfl)) (Parts.cons (congrArg Value.cells (show ev _ _ = (.int .u32 2460548119) from rfl)) (Parts.cons (congrArg Value.cells (show ev _ _ = (.int .u32 2722870694) from rfl)) (Parts.cons (congrArg Value.cells (show ev _ _ = (.int .u32 2987750089) from rfl)) (Parts.cons (congrArg Value.cells (show ev _ _ = (.int .u32 3280807620) from rfl)) (Parts.cons (congrArg Value.cells (show ev _ _ = (.int .u32 3553878443) from rfl)) (Parts.cons (congrArg Value.cells (show ev _ _ = (.int .u32 3811616794) from rfl)) (Parts.cons (congrArg Value.cells (show ev _ _ = (.int .u32 4084100981) from rfl)) Parts.nil)))))))))))))))) rfl) rfl ?_
 refine WL.eff (EO.alloc ze193 rfl) rfl ?_
 rintro _ _ _ - ⟨rfl, g21, rfl, rfl⟩
 refine WL.eff (EO.storeL (v := (.agg #[(.int .u32 0), (.int .u32 274646895), (.int .u32 549293790), (.int .u32 820201905), (.int .u32 1098587580), (.int .u32 1361435347), (.int .u32 1640403810), (.int .u32 1905808397), (.int .u32 2197175160), (.int .u32 2460548119), (.int .u32 2722870694), (.int .u32 2987750089), (.int .u32 3280807620), (.int .u32 3553878443), (.int .u32 3811616794), (.int .u32 4084100981)])) (vl := [(.int .u32 0), (.int .u32 274646895), (.int .u32 549293790), (.int .u32 820201905), (.int .u32 1098587580), (.int .u32 1361435347), (.int .u32 1640403810), (.int .u32 1905808397), (.int .u32 2197175160), (.int .u32 2460548119), (.int .u32 2722870694), (.int .u32 2987750089), (.int .u32 3280807620), (.int .u32 3553878443), (.int .u32 3811616794), (.int .u32 4084100981)]) (arr' := [(.int .u32 0), (.int .u32 274646895), (.int .u32 549293790), (.int .u32 820201905), (.int .u32 1098587580), (.int .u32 1361435347), (.int .u32 1640403810), (.int .u32 1905808397), (.int .u32 2197175160), (.int .u32 2460548119), (.int .u32 2722870694), (.int .u32 2987750089), (.int .u32 3280807620), (.int .u32 3553878443), (.int .u32 3811616794), (.int .u32 4084100981)]) rfl sz193 rfl rfl (onesOf (Ones.cons rfl (Ones.cons rfl (Ones.cons rfl (Ones.cons rfl (Ones.cons rfl (Ones.cons rfl (Ones.cons rfl (Ones.cons rfl (Ones.cons rfl (Ones.cons rfl (Ones.cons rfl (Ones.cons rfl (Ones.cons rfl (Ones.cons rfl (Ones.cons rfl (Ones.cons rfl Ones.nil))))))))))))))))) rfl rfl (by kernel_rfl)) rfl ?_
 rintro _ _ _ - ⟨rfl, rfl⟩
 refine Ns ?_
 refine Pm (.int .u32 a0) (hρ 0) rfl ?_
 refine Pu (.int .u32 (andI .u32 a0 (15 : Int))) (PO.and rfl rfl) rfl ?_
 obtain ⟨hg22, h⟩ := grd_i h
 refine Pu (.pointer (some ⟨g21, (andI .u32 a0 (15 : Int)).toNat, none⟩)) (PO.indexArr Tryd.underlying193 sz73 rfl rfl hg22.1 hg22.2 addI1) rfl ?_
 refine Pu (.int .u32 (rd [(0 : Int), (274646895 : Int), (549293790 : Int), (820201905 : Int), (1098587580 : Int), (1361435347 : Int), (1640403810 : Int), (1905808397 : Int), (2197175160 : Int), (2460548119 : Int), (2722870694 : Int), (2987750089 : Int), (3280807620 : Int), (3553878443 : Int), (3811616794 : Int), (4084100981 : Int)] (andI .u32 a0 (15 : Int)))) (PO.loadArr (xs := [(0 : Int), (274646895 : Int), (549293790 : Int), (820201905 : Int), (1098587580 : Int), (1361435347 : Int), (1640403810 : Int), (1905808397 : Int), (2197175160 : Int), (2460548119 : Int), (2722870694 : Int), (2987750089 : Int), (3280807620 : Int), (3553878443 : Int), (3811616794 : Int), (4084100981 : Int)]) 0 pl73 rfl rfl rfl hg22.1 hg22.2) rfl ?_
 refine Pa (.int .u32 (rd [(0 : Int), (274646895 : Int), (549293790 : Int), (820201905 : Int), (1098587580 : Int), (1361435347 : Int), (1640403810 : Int), (1905808397 : Int), (2197175160 : Int), (2460548119 : Int), (2722870694 : Int), (2987750089 : Int), (3280807620 : Int), (3553878443 : Int), (3811616794 : Int), (4084100981 : Int)] (andI .u32 a0 (15 : Int)))) rfl rfl ?_
 refine Nt ?_
 refine WC.ret ?_
 refine WQ.drop ?_
 exact WQ.returnsF h [] rfl (results1 rfl rfl) (IM.le.refl _) ⟨rfl, rfl⟩

noncomputable def f_crc_More_l0 (a1 : (List Int)) (s_ : (Int × Int)) : Option ((Int × Int) ⊕ Int) :=
  match s_ with
  | (x24, x25) =>
    (if (decide (x25 < (a1.length : Int))) = true then (grd (0 ≤ x25 ∧ x25 < a1.length) ((f_crc_half (xorI .u32 x24 (IntKind.u32.wrap (rd a1 x25)))).bind fun (r35 : Int) => ((f_crc_half (xorI .u32 (shrI .u32 (xorI .u32 x24 (IntKind.u32.wrap (rd a1 x25))) (4 : Int)) r35)).bind fun (r40 : Int) => (some (Sum.inl (xorI .u32 (shrI .u32 (xorI .u32 (shrI .u32 (xorI .u32 x24 (IntKind.u32.wrap (rd a1 x25))) (4 : Int)) r35) (4 : Int)) r40, IntKind.i64.wrap (x25 + (1 : Int)))))))) else (some (Sum.inr x24)))
noncomputable def f_crc_More (a0 : Int) (a1 : (List Int)) : Option Int :=
  ((((iter (f_crc_More_l0 a1) (notI .u32 a0, (0 : Int))).bind (fun (x26 : Int) => (some x26))) : Option Int).bind fun (x21 : Int) => (some (notI .u32 x21)))
def f_crc_More_post (a0 : Int) (a1 : (List Int)) (v1 : Value) : Int → Value → IM → HL → Prop :=
  fun (r0 : Int) (v : Value) (M' : IM) (H' : HL) => (.int .u32 r0) = v ∧ H' = []
theorem f_crc_More_ok (a0 : Int) (a1 : (List Int)) (M : IM) (v1 : Value) (h1 : RS (Kd.int .u8) M v1 a1) (res : Int) (h : f_crc_More a0 a1 = some res) :
    Tri Tryd.prog 91 #[(.int .u32 a0), v1] M [] (f_crc_More_post a0 a1 v1 res) := by
 unfold f_crc_More at h
 refine Tri.enter (fn := Tryd.f91) Tryd.func91 rfl (Nat.le_of_ble_eq_true rfl) ?_
 intro F ρ hρ
 refine Sr ?_
 refine Pa (.int .u32 0) rfl rfl ?_
 refine Ns ?_
 refine Pm (.int .u32 a0) (hρ 0) rfl ?_
 refine Pu (.int .u32 (notI .u32 a0)) (PO.com rfl) rfl ?_
 refine Pa (.int .u32 (notI .u32 a0)) rfl rfl ?_
 refine Nt ?_
 obtain ⟨x21, hj22, h⟩ := bnd h
 refine WC.joinF (fun (x21 : Int) ρ' M' H' => M.le M' ∧ F = H' ∧ ρ' 0 = (.int .u32 x21)) x21 ?_ ?_
 have h322 := h
 have h := hj22
 refine Sr ?_
 refine Pm v1 (hρ 1) rfl ?_
 refine Pu (.int .i64 (a1.length : Int)) (PO.lenS Tryd.underlying26 rfl h1.len) rfl ?_
 refine Pm (.int .i64 0) rfl rfl ?_
 refine Nt ?_
 refine WC.block ?_
 obtain ⟨e23, he23, hK23⟩ := bnd h
 clear h
 refine WC.loop he23 (fun (p_ : (Int × Int)) ρ' M' H' => match p_ with | (x24, x25) => M.le M' ∧ F = H' ∧ ρ' 0 = (.int .u32 x24) ∧ ρ' 9 = v1 ∧ ρ' 10 = (.int .i64 (a1.length : Int)) ∧ ρ' 11 = (.int .i64 x25)) ?_ ?_
 exact ⟨(IM.le.refl _), rfl, rfl, rfl, rfl, rfl⟩
 rintro ⟨x24, x25⟩ o23 ρ23 M23 H23 h ⟨hle23, rfl, hs23_0, hs23_9, hs23_10, hs23_11⟩
 unfold f_crc_More_l0 at h
 have h1 := h1.mono hle23
 refine Sr ?_
 refine Pu (.bool (decide (x25 < (a1.length : Int)))) (PO.lss hs23_11 hs23_10) rfl ?_
 refine Nt ?_
 refine WC.seq ?_
 refine WC.cond (b := decide (x25 < (a1.length : Int))) rfl (fun hb27 => ?_) (fun hb27 => ?_)
 have h := ite_t hb27 h
 refine WC.skip ?_
 refine WQ.thenC ?_
 refine WC.seq ?_
 refine WC.block ?_
 refine Sr ?_
 obtain ⟨hg28, h⟩ := grd_i h
 obtain ⟨p29, cs30, hat31, hrc32, hhas33⟩ := h1.at hg28.1 hg28.2 (by decide)
 obtain rfl := hrc32
 refine Pu (.pointer (some p29)) (PO.indexAddr (n := a1.length) Tryd.underlying26 sz5 hs23_9 hs23_11 hg28.1 hg28.2 hat31) rfl ?_
 refine Pu (.int .u8 (rd a1 x25)) (PO.loadM pl5 rfl (IM.has0 hhas33)) rfl ?_
 refine Pa (.int .u8 (rd a1 x25)) rfl rfl ?_
 refine Ns ?_
 refine Pm (.int .u32 x24) hs23_0 rfl ?_
 refine Pm (.int .u8 (rd a1 x25)) rfl rfl ?_
 refine Pu (.int .u32 (IntKind.u32.wrap (rd a1 x25))) (PO.conv us5 Tryd.underlying73 rfl) rfl ?_
 refine Pu (.int .u32 (xorI .u32 x24 (IntKind.u32.wrap (rd a1 x25)))) (PO.xor rfl rfl) rfl ?_
 refine Pa (.int .u32 (xorI .u32 x24 (IntKind.u32.wrap (rd a1 x25)))) rfl rfl ?_
 refine Ns ?_
 refine Pm (.int .u32 (xorI .u32 x24 (IntKind.u32.wrap (rd a1 x25)))) rfl rfl ?_
 refine Pu (.int .u32 (shrI .u32 (xorI .u32 x24 (IntKind.u32.wrap (rd a1 x25))) (4 : Int))) (PO.shr rfl rfl (by decide)) rfl ?_
 refine Pm (.int .u32 (xorI .u32 x24 (IntKind.u32.wrap (rd a1 x25)))) rfl rfl ?_
 obtain ⟨r35, hr36, h⟩ := bnd h
 refine WL.eff (EO.call0 co114 (f_crc_half_ok (xorI .u32 x24 (IntKind.u32.wrap (rd a1 x25))) _ r35 hr36) (args1 rfl)) rfl ?_
 rintro _ M37 _ hle38 ⟨_, ⟨rfl, rfl⟩, rfl⟩
 have h1 := h1.mono hle38
 refine WL.a0 ?_
 refine Pu (.int .u32 (xorI .u32 (shrI .u32 (xorI .u32 x24 (IntKind.u32.wrap (rd a1 x25))) (4 : Int)) r35)) (PO.xor rfl rfl) rfl ?_
 refine Pa (.int .u32 (xorI .u32 (shrI .u32 (xorI .u32 x24 (IntKind.u32.wrap (rd a1 x25))) (4 : Int)) r35)) rfl rfl ?_
 refine Nt ?_
 refine WC.region ?_
 refine Pm (.int .u32 (xorI .u32 (shrI .u32 (xorI .u32 x24 (IntKind.u32.wrap (rd a1 x25))) (4 : Int)) r35)) rfl rfl ?_
 refine Pu (.int .u32 (shrI .u32 (xorI .u32 (shrI .u32 (xorI .u32 x24 (IntKind.u32.wrap (rd a1 x25))) (4 : Int)) r35) (4 : Int))) (PO.shr rfl rfl (by decide)) rfl ?_
 refine Pm (.int .u32 (xorI .u32 (shrI .u32 (xorI .u32 x24 (IntKind.u32.wrap (rd a1 x25))) (4 : Int)) r35)) rfl rfl ?_
 obtain ⟨r40, hr41, h⟩ := bnd h
 refine WL.eff (EO.call0 co114 (f_crc_half_ok (xorI .u32 (shrI .u32 (xorI .u32 x24 (IntKind.u32.wrap (rd a1 x25))) (4 : Int)) r35) _ r40 hr41) (args1 rfl)) rfl ?_
 rintro _ M42 _ hle43 ⟨_, ⟨rfl, rfl⟩, rfl⟩
 have h1 := h1.mono hle43
 refine WL.a0 ?_
 refine Pu (.int .u32 (xorI .u32 (shrI .u32 (xorI .u32 (shrI .u32 (xorI .u32 x24 (IntKind.u32.wrap (rd a1 x25))) (4 : Int)) r35) (4 : Int)) r40)) (PO.xor rfl rfl) rfl ?_
 refine Pa (.int .u32 (xorI .u32 (shrI .u32 (xorI .u32 (shrI .u32 (xorI .u32 x24 (IntKind.u32.wrap (rd a1 x25))) (4 : Int)) r35) (4 : Int)) r40)) rfl rfl ?_
 refine WL.nil ?_
 refine WQ.blockN ?_
 refine WQ.thenC ?_
 refine WC.region ?_
 refine Pu (.int .i64 (IntKind.i64.wrap (x25 + 1))) (PO.add hs23_11 rfl) rfl ?_
 refine Pm (.int .i64 (IntKind.i64.wrap (x25 + 1))) rfl rfl ?_
 refine WL.nil ?_
 refine WQ.again (xorI .u32 (shrI .u32 (xorI .u32 (shrI .u32 (xorI .u32 x24 (IntKind.u32.wrap (rd a1 x25))) (4 : Int)) r35) (4 : Int)) r40, IntKind.i64.wrap (x25 + 1)) (Option.some.inj h).symm ?_
 exact ⟨((hle23.trans hle38).trans hle43), rfl, rfl, hs23_9, hs23_10, rfl⟩
 have h := ite_f hb27 h
 refine WC.exit ?_
 refine WQ.thenE ?_
 refine WQ.leaveE x24 (Option.some.inj h).symm (fun heq23 => ?_)
 subst heq23
 have h := hK23
 refine WQ.blockH ?_
 obtain rfl := Option.some.inj h
 refine WQ.thenJ ?_
 exact ⟨hle23, rfl, hs23_0⟩
 rintro ρ22 M22 H22 ⟨hle22, rfl, hs22_0⟩
 refine Sr ?_
 refine Pm (.int .u32 x21) hs22_0 rfl ?_
 refine Pu (.int .u32 (notI .u32 x21)) (PO.com rfl) rfl ?_
 refine Pa (.int .u32 (notI .u32 x21)) rfl rfl ?_
 refine Nt ?_
 refine WC.ret ?_
 exact WQ.returnsF h [] rfl (results1 rfl rfl) hle22 ⟨rfl, rfl⟩

noncomputable def f_crc_Sum (a0 : (List Int)) : Option Int :=
  ((f_crc_More (0 : Int) a0).bind fun (r21 : Int) => (some r21))
def f_crc_Sum_post (a0 : (List Int)) (v0 : Value) : Int → Value → IM → HL → Prop :=
  fun (r0 : Int) (v : Value) (M' : IM) (H' : HL) => (.int .u32 r0) = v ∧ H' = []
theorem f_crc_Sum_ok (a0 : (List Int)) (M : IM) (v0 : Value) (h0 : RS (Kd.int .u8) M v0 a0) (res : Int) (h : f_crc_Sum a0 = some res) :
    Tri Tryd.prog 59 #[v0] M [] (f_crc_Sum_post a0 v0 res) := by
 unfold f_crc_Sum at h
 refine Tri.enter (fn := Tryd.f59) Tryd.func59 rfl (Nat.le_of_ble_eq_true rfl) ?_
 intro F ρ hρ
 refine Sr ?_
 refine Pa (.int .u32 0) rfl rfl ?_
 refine Ns ?_
 refine Pm v0 (hρ 0) rfl ?_
 obtain ⟨r21, hr22, h⟩ := bnd h
 refine WL.eff (EO.call0 co91 (f_crc_More_ok (0 : Int) a0 _ _ h0 r21 hr22) (args2 rfl rfl)) rfl ?_
 rintro _ M23 _ hle24 ⟨_, ⟨rfl, rfl⟩, rfl⟩
 have h0 := h0.mono hle24
 refine WL.a0 ?_
 refine Pa (.int .u32 r21) rfl rfl ?_
 refine Nt ?_
 refine WC.ret ?_
 exact WQ.returnsF h [] rfl (results1 rfl rfl) hle24 ⟨rfl, rfl⟩

noncomputable def f_crc_Put (a0 : (List Int)) : Option (List Int) :=
  ((f_crc_Sum a0).bind fun (r21 : Int) => (grd (0 ≤ IntKind.i64.wrap ((a0.length : Int) + (4 : Int)) ∧ IntKind.i64.wrap ((a0.length : Int) + (4 : Int)) ≤ 274877906944) (grd (([] : List Int).length + a0.length ≤ 274877906944) (grd ((([] : List Int) ++ a0).length + [IntKind.u8.wrap r21, IntKind.u8.wrap (shrI .u32 r21 (8 : Int)), IntKind.u8.wrap (shrI .u32 r21 (16 : Int)), IntKind.u8.wrap (shrI .u32 r21 (24 : Int))].length ≤ 274877906944) (some ((([] : List Int) ++ a0) ++ [IntKind.u8.wrap r21, IntKind.u8.wrap (shrI .u32 r21 (8 : Int)), IntKind.u8.wrap (shrI .u32 r21 (16 : Int)), IntKind.u8.wrap (shrI .u32 r21 (24 : Int))]))))))
def f_crc_Put_post (a0 : (List Int)) (v0 : Value) : (List Int) → Value → IM → HL → Prop :=
  fun (r0 : (List Int)) (v : Value) (M' : IM) (H' : HL) => ∃ vz0 cz0, vz0 = v ∧ H' = [cz0] ∧ OwnS (Kd.int .u8) M' vz0 r0 cz0
theorem f_crc_Put_ok (a0 : (List Int)) (M : IM) (v0 : Value) (h0 : RS (Kd.int .u8) M v0 a0) (res : (List Int)) (h : f_crc_Put a0 = some res) :
    Tri Tryd.prog 38 #[v0] M [] (f_crc_Put_post a0 v0 res) := by
 unfold f_crc_Put at h
 refine Tri.enter (fn := Tryd.f38) Tryd.func38 rfl (Nat.le_of_ble_eq_true rfl) ?_
 intro F ρ hρ
 refine Sr ?_
 refine Pa (.slice none 0 0) rfl rfl ?_
 refine Ns ?_
 refine Pm v0 (hρ 0) rfl ?_
 obtain ⟨r21, hr22, h⟩ := bnd h
 refine WL.eff (EO.call0 co59 (f_crc_Sum_ok a0 _ _ h0 r21 hr22) (args1 rfl)) rfl ?_
 rintro _ M23 _ hle24 ⟨_, ⟨rfl, rfl⟩, rfl⟩
 have h0 := h0.mono hle24
 refine WL.a0 ?_
 refine Pa (.int .u32 r21) rfl rfl ?_
 refine Ns ?_
 refine Pm v0 (hρ 0) rfl ?_
 refine Pu (.int .i64 (a0.length : Int)) (PO.lenS Tryd.underlying26 rfl h0.len) rfl ?_
 refine Pu (.int .i64 (IntKind.i64.wrap ((a0.length : Int) + (4 : Int)))) (PO.add rfl rfl) rfl ?_
 obtain ⟨hg29, h⟩ := grd_i h
 refine WL.eff (EO.makeCap (dd := (Kd.int .u8)) Tryd.underlying26 in5 rfl rfl rfl hg29.1 (by decide) (makeB rfl hg29.1 hg29.2)) rfl ?_
 rintro v28 _ _ - ⟨rfl, c26, rfl, h27⟩
 refine Pa v28 rfl rfl ?_
 refine Ns ?_
 refine Pm v28 rfl rfl ?_
 refine Pm v0 (hρ 0) rfl ?_
 obtain ⟨hg33, h⟩ := grd_i h
 refine WL.eff (EO.append (dd := (Kd.int .u8)) (xs := ([] : List Int)) (ys := a0) Tryd.underlying26 Tryd.underlying26 in5 rfl (appB (by decide) hg33) (by decide) rfl rfl h27 (h0.src _)) rfl ?_
 rintro v32 _ _ - ⟨rfl, c30, rfl, h31⟩
 refine Pa v32 rfl rfl ?_
 refine Ns ?_
 refine Pm v32 rfl rfl ?_
 refine Pm (.int .u32 r21) rfl rfl ?_
 refine Pu (.int .u8 (IntKind.u8.wrap r21)) (PO.conv us73 Tryd.underlying5 rfl) rfl ?_
 refine Pm (.int .u32 r21) rfl rfl ?_
 refine Pu (.int .u32 (shrI .u32 r21 (8 : Int))) (PO.shr rfl rfl (by decide)) rfl ?_
 refine Pu (.int .u8 (IntKind.u8.wrap (shrI .u32 r21 (8 : Int)))) (PO.conv us73 Tryd.underlying5 rfl) rfl ?_
 refine Pm (.int .u32 r21) rfl rfl ?_
 refine Pu (.int .u32 (shrI .u32 r21 (16 : Int))) (PO.shr rfl rfl (by decide)) rfl ?_
 refine Pu (.int .u8 (IntKind.u8.wrap (shrI .u32 r21 (16 : Int)))) (PO.conv us73 Tryd.underlying5 rfl) rfl ?_
 refine Pm (.int .u32 r21) rfl rfl ?_
 refine Pu (.int .u32 (shrI .u32 r21 (24 : Int))) (PO.shr rfl rfl (by decide)) rfl ?_
 refine Pu (.int .u8 (IntKind.u8.wrap (shrI .u32 r21 (24 : Int)))) (PO.conv us73 Tryd.underlying5 rfl) rfl ?_
 refine WL.eff (EO.buildSliceL (cl := [(.int .u8 (IntKind.u8.wrap r21)), (.int .u8 (IntKind.u8.wrap (shrI .u32 r21 (8 : Int)))), (.int .u8 (IntKind.u8.wrap (shrI .u32 r21 (16 : Int)))), (.int .u8 (IntKind.u8.wrap (shrI .u32 r21 (24 : Int))))]) Tryd.underlying26 iz5 rfl (Parts.cons (congrArg Value.cells (show ev _ _ = (.int .u8 (IntKind.u8.wrap r21)) from rfl)) (Parts.cons (congrArg Value.cells (show ev _ _ = (.int .u8 (IntKind.u8.wrap (shrI .u32 r21 (8 : Int)))) from rfl)) (Parts.cons (congrArg Value.cells (show ev _ _ = (.int .u8 (IntKind.u8.wrap (shrI .u32 r21 (16 : Int)))) from rfl)) (Parts.cons (congrArg Value.cells (show ev _ _ = (.int .u8 (IntKind.u8.wrap (shrI .u32 r21 (24 : Int)))) from rfl)) Parts.nil)))) rfl) rfl ?_
 rintro _ _ _ - ⟨rfl, g34, rfl, rfl⟩
 have h36 : OwnS (Kd.int .u8) M23 (.slice (some ⟨g34, 0, none⟩) 4 4) [IntKind.u8.wrap r21, IntKind.u8.wrap (shrI .u32 r21 (8 : Int)), IntKind.u8.wrap (shrI .u32 r21 (16 : Int)), IntKind.u8.wrap (shrI .u32 r21 (24 : Int))] [(g34, .cells #[(.int .u8 (IntKind.u8.wrap r21)), (.int .u8 (IntKind.u8.wrap (shrI .u32 r21 (8 : Int)))), (.int .u8 (IntKind.u8.wrap (shrI .u32 r21 (16 : Int)))), (.int .u8 (IntKind.u8.wrap (shrI .u32 r21 (24 : Int))))] 5 (0, 0))] := OwnS.rows (css := [[(.int .u8 (IntKind.u8.wrap r21))], [(.int .u8 (IntKind.u8.wrap (shrI .u32 r21 (8 : Int))))], [(.int .u8 (IntKind.u8.wrap (shrI .u32 r21 (16 : Int))))], [(.int .u8 (IntKind.u8.wrap (shrI .u32 r21 (24 : Int))))]]) (Rows.cons rfl (Rows.cons rfl (Rows.cons rfl (Rows.cons rfl Rows.nil)))) rfl rfl
 obtain ⟨hg40, h⟩ := grd_i h
 refine WL.f1 ?_
 refine WL.eff (EO.append (dd := (Kd.int .u8)) (xs := ([] : List Int) ++ a0) (ys := [IntKind.u8.wrap r21, IntKind.u8.wrap (shrI .u32 r21 (8 : Int)), IntKind.u8.wrap (shrI .u32 r21 (16 : Int)), IntKind.u8.wrap (shrI .u32 r21 (24 : Int))]) Tryd.underlying26 Tryd.underlying26 in5 rfl (appB (by decide) hg40) (by decide) rfl rfl h31 (h36.src 1 rfl)) rfl ?_
 rintro v39 _ _ - ⟨rfl, c37, rfl, h38⟩
 refine Pa v39 rfl rfl ?_
 refine Nt ?_
 refine WC.ret ?_
 refine WQ.f1 ?_
 refine WQ.drop ?_
 exact WQ.returnsF h [c37] rfl (results1 rfl rfl) hle24 ⟨v39, c37, rfl, rfl, h38⟩


end Go.Proofs.YtjiffdgidodebaaDoor.G
