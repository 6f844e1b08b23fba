/- Go functions: what they come to, and that they do. Printed by a program of the session (gen). -/
import Derived.Test.YtjiffdgidodebaaDoorFF
import Derived.Test.YtjiffdgidodebaaDoorF4
import Derived.Test.YtjiffdgidodebaaDoorKShar
set_option linter.unusedVariables false
set_option linter.unusedSimpArgs false
set_option maxHeartbeats 8000000
set_option maxRecDepth 100000
namespace Go.Proofs.YtjiffdgidodebaaDoor.G
open Go Go.KK

noncomputable def f_ref02_Same_l0 (a0 : (List Int)) (a1 : (List Int)) (s_ : Int) : Option (Int ⊕ (Unit ⊕ Unit)) :=
  match s_ with
  | x24 =>
    (if (decide (x24 < (a0.length : Int))) = true then (grd (0 ≤ x24 ∧ x24 < a0.length) (grd (0 ≤ x24 ∧ x24 < a1.length) (if (decide ((rd a0 x24) ≠ (rd a1 x24))) = true then (some (Sum.inr (Sum.inr ()))) else (some (Sum.inl (IntKind.i64.wrap (x24 + (1 : Int)))))))) else (some (Sum.inr (Sum.inl ()))))
noncomputable def f_ref02_Same (a0 : (List Int)) (a1 : (List Int)) : Option Bool :=
  (if (decide ((a0.length : Int) ≠ (a1.length : Int))) = true then (some false) else ((((iter (f_ref02_Same_l0 a0 a1) (0 : Int)).bind (Sum.elim (fun _ => (some (Sum.inl ()))) (fun _ => (((some false)).bind fun r => some (Sum.inr r))))) : Option (Unit ⊕ Bool)).bind (Sum.elim (fun _ => (some true)) some)))
def f_ref02_Same_post (a0 : (List Int)) (a1 : (List Int)) (v0 v1 : Value) : Bool → Value → IM → HL → Prop :=
  fun (r0 : Bool) (v : Value) (M' : IM) (H' : HL) => (.bool r0) = v ∧ H' = []
theorem f_ref02_Same_ok (a0 : (List Int)) (a1 : (List Int)) (M : IM) (v0 v1 : Value) (h0 : RS (Kd.int .u8) M v0 a0) (h1 : RS (Kd.int .u8) M v1 a1) (res : Bool) (h : f_ref02_Same a0 a1 = some res) :
    Tri Tryd.prog 19 #[v0, v1] M [] (f_ref02_Same_post a0 a1 v0 v1 res) := by
 unfold f_ref02_Same at h
 refine Tri.enter (fn := Tryd.f19) Tryd.func19 rfl (Nat.le_of_ble_eq_true rfl) ?_
 intro F ρ hρ
 refine Sr ?_
 refine Pa (.bool false) rfl rfl ?_
 refine Nt ?_
 refine WC.seq ?_
 refine Sr ?_
 refine Pm v0 (hρ 0) rfl ?_
 refine Pu (.int .i64 (a0.length : Int)) (PO.lenS Tryd.underlying26 rfl h0.len) rfl ?_
 refine Pm v1 (hρ 1) rfl ?_
 refine Pu (.int .i64 (a1.length : Int)) (PO.lenS Tryd.underlying26 rfl h1.len) rfl ?_
 refine Pu (.bool (decide ((a0.length : Int) ≠ (a1.length : Int)))) (PO.neq rfl rfl) rfl ?_
 refine Nt ?_
 refine WC.cond (b := decide ((a0.length : Int) ≠ (a1.length : Int))) rfl (fun hb21 => ?_) (fun hb21 => ?_)
 have h := ite_t hb21 h
 refine Sr ?_
 refine Pa (.bool false) rfl rfl ?_
 refine Nt ?_
 refine WC.ret ?_
 refine WQ.thenR ?_
 exact WQ.returnsF h [] rfl (results1 rfl rfl) (IM.le.refl _) ⟨rfl, rfl⟩
 have h := ite_f hb21 h
 refine WC.skip ?_
 refine WQ.thenC ?_
 obtain ⟨j22, hj22, h⟩ := bnd h
 refine WC.joinE (fun (_ : Unit) ρ' M' H' => M.le M' ∧ F = H') j22 ?_ ?_
 have h322 := h
 have h := hj22
 refine Sr ?_
 refine Pa (.int .i64 0) rfl rfl ?_
 refine Nt ?_
 refine WC.block ?_
 obtain ⟨e23, he23, hK23⟩ := bnd h
 clear h
 refine WC.loop he23 (fun (x24 : Int) ρ' M' H' => M.le M' ∧ F = H' ∧ ρ' 0 = v0 ∧ ρ' 1 = v1 ∧ ρ' 5 = (.int .i64 x24)) ?_ ?_
 exact ⟨(IM.le.refl _), rfl, (hρ 0), (hρ 1), rfl⟩
 rintro x24 o23 ρ23 M23 H23 h ⟨hle23, rfl, hs23_0, hs23_1, hs23_5⟩
 unfold f_ref02_Same_l0 at h
 have h0 := h0.mono hle23
 have h1 := h1.mono hle23
 refine WC.seq ?_
 refine Sr ?_
 refine Pm (.int .i64 x24) hs23_5 rfl ?_
 refine Pm v0 hs23_0 rfl ?_
 refine Pu (.int .i64 (a0.length : Int)) (PO.lenS Tryd.underlying26 rfl h0.len) rfl ?_
 refine Pu (.bool (decide (x24 < (a0.length : Int)))) (PO.lss rfl rfl) rfl ?_
 refine Nt ?_
 refine WC.cond (b := decide (x24 < (a0.length : Int))) rfl (fun hb25 => ?_) (fun hb25 => ?_)
 have h := ite_t hb25 h
 refine WC.skip ?_
 refine WQ.thenC ?_
 refine WC.seq ?_
 refine WC.block ?_
 refine WC.seq ?_
 refine WC.draw [0, 0, 3, 7, 0, 0, 48, 112, 255] (.pure 0 (.pure 1 (.pure 2 (.pure 3 (.pure 4 (.pure 5 (.pure 6 (.pure 7 (.pure 8 .done))))))))) mixed (by kernel_rfl) ?_
 refine Tp v0 rfl (PO.move hs23_0) rfl ?_
 refine Tp (.int .i64 x24) rfl (PO.move hs23_5) rfl ?_
 obtain ⟨hg26, h⟩ := grd_i h
 obtain ⟨p27, cs28, hat29, hrc30, hhas31⟩ := h0.at hg26.1 hg26.2 (by decide)
 obtain rfl := hrc30
 refine Tp (.pointer (some p27)) rfl (PO.indexAddr (n := a0.length) Tryd.underlying26 sz5 rfl rfl hg26.1 hg26.2 hat29) rfl ?_
 refine Tp (.int .u8 (rd a0 x24)) rfl (PO.loadM pl5 rfl (IM.has0 hhas31)) rfl ?_
 refine Tp v1 rfl (PO.move hs23_1) rfl ?_
 refine Tp (.int .i64 x24) rfl (PO.move hs23_5) rfl ?_
 obtain ⟨hg33, h⟩ := grd_i h
 obtain ⟨p34, cs35, hat36, hrc37, hhas38⟩ := h1.at hg33.1 hg33.2 (by decide)
 obtain rfl := hrc37
 refine Tp (.pointer (some p34)) rfl (PO.indexAddr (n := a1.length) Tryd.underlying26 sz5 rfl rfl hg33.1 hg33.2 hat36) rfl ?_
 refine Tp (.int .u8 (rd a1 x24)) rfl (PO.loadM pl5 rfl (IM.has0 hhas38)) rfl ?_
 refine Tp (.bool (decide ((rd a0 x24) ≠ (rd a1 x24)))) rfl (PO.neq rfl rfl) rfl ?_
 refine WT.fin ?_
 refine WQ.thenC ?_
 refine WC.cond (b := decide ((rd a0 x24) ≠ (rd a1 x24))) rfl (fun hb40 => ?_) (fun hb40 => ?_)
 have h := ite_t hb40 h
 refine Sr ?_
 refine Pa (.bool false) rfl rfl ?_
 refine Nt ?_
 refine WC.ret ?_
 refine WQ.blockR ?_
 refine WQ.thenR ?_
 refine WQ.leaveR (Sum.inr ()) (Option.some.inj h).symm (fun heq23 => ?_)
 subst heq23
 have h := (elimR hK23)
 refine WQ.blockR ?_
 refine WQ.thenR ?_
 have h := KK.early h h322
 exact WQ.returnsF h [] rfl (results1 rfl rfl) hle23 ⟨rfl, rfl⟩
 have h := ite_f hb40 h
 refine WC.skip ?_
 refine WQ.blockN ?_
 refine WQ.thenC ?_
 refine WC.region ?_
 refine Pm (.int .i64 x24) hs23_5 rfl ?_
 refine Pu (.int .i64 (IntKind.i64.wrap (x24 + 1))) (PO.add rfl rfl) rfl ?_
 refine Pa (.int .i64 (IntKind.i64.wrap (x24 + 1))) rfl rfl ?_
 refine WL.nil ?_
 refine WQ.again (IntKind.i64.wrap (x24 + 1)) (Option.some.inj h).symm ?_
 exact ⟨hle23, rfl, hs23_0, hs23_1, rfl⟩
 have h := ite_f hb25 h
 refine WC.exit ?_
 refine WQ.thenE ?_
 refine WQ.leaveE (Sum.inl ()) (Option.some.inj h).symm (fun heq23 => ?_)
 subst heq23
 have h := elimL hK23
 refine WQ.blockH ?_
 refine WQ.thenFE h ?_
 exact ⟨hle23, rfl⟩
 rintro _ ρ22 M22 H22 rfl ⟨hle22, rfl⟩
 have h := (Sum.elim_inl _ _ _).symm.trans h
 refine Sr ?_
 refine Pa (.bool true) rfl rfl ?_
 refine Nt ?_
 refine WC.ret ?_
 exact WQ.returnsF h [] rfl (results1 rfl rfl) hle22 ⟨rfl, rfl⟩

noncomputable def f_law04_FramePuts (a0 : T_api_Frame) : Option Bool :=
  ((f_law04_light [a0]).bind fun (r25 : Bool) => (if (!r25) = true then ((f_law04_works).bind fun (r34 : Bool) => (some r34)) else ((f_frame_Put a0).bind fun (r39, r40) => ((f_ref04_Put a0).bind fun (r46, r47, r48) => (if (decide (r47 ≠ (0 : Int))) = true then ((f_fault_Where r40).bind fun (r56, r57) => (((if (decide ((r39.length : Int) = (0 : Int))) = true then ((f_fault_Of r40).bind fun (r66 : Int) => (if (decide (r66 = r47)) = true then (if r57 = true then (if (decide (r56 = r48)) = true then ((f_law04_works).bind fun (r74 : Bool) => (some r74)) else (some false)) else (some false)) else (some false))) else (some false)) : Option Bool).bind fun (x63 : Bool) => (some x63))) else (((if r40.isNil = true then ((f_ref02_Same r39 r46).bind fun (r82 : Bool) => (if r82 = true then ((f_law04_works).bind fun (r94 : Bool) => (some r94)) else (some false))) else (some false)) : Option Bool).bind fun (x79 : Bool) => (some x79)))))))
def f_law04_FramePuts_post (a0 : T_api_Frame) (v0_1 : Value) : Bool → Value → IM → HL → Prop :=
  fun (r0 : Bool) (v : Value) (M' : IM) (H' : HL) => (.bool r0) = v ∧ H' = []
theorem f_law04_FramePuts_ok (a0 : T_api_Frame) (M : IM) (v0_1 : Value) (h0_1 : RS (Kd.int .u8) M v0_1 a0.Body) (hE : Env M) (res : Bool) (h : f_law04_FramePuts a0 = some res) :
    Tri Tryd.prog 5 #[(.agg #[(.int .i64 a0.Kind), v0_1])] M [] (f_law04_FramePuts_post a0 v0_1 res) := by
 unfold f_law04_FramePuts at h
 refine Tri.enter (fn := Tryd.f5) Tryd.func5 rfl (Nat.le_of_ble_eq_true rfl) ?_
 intro F ρ hρ
 refine Sr ?_
 refine WL.eff (EO.box (cs := #[(.int .i64 a0.Kind), v0_1]) (congrArg Value.cells (asE (.agg #[(.int .i64 a0.Kind), v0_1]) (hρ 0)))) rfl ?_
 rintro _ _ _ - ⟨rfl, g21, rfl, rfl⟩
 refine Pa (.bool false) rfl rfl ?_
 refine Nt ?_
 refine WC.seq ?_
 refine Sr ?_
 refine Pu (.agg #[(.int .i64 a0.Kind), v0_1]) (PO.loadBA (cs := [(.int .i64 a0.Kind), v0_1]) 0 ag40 sz40 rfl rfl rfl) rfl ?_
 refine WL.eff (EO.buildSliceL (cl := [(.int .i64 a0.Kind), v0_1]) Tryd.underlying22 iz40 rfl (Parts.cons (congrArg Value.cells (show ev _ _ = (.agg #[(.int .i64 a0.Kind), v0_1]) from rfl)) Parts.nil) rfl) rfl ?_
 rintro _ _ _ - ⟨rfl, g22, rfl, rfl⟩
 have h24 : OwnS kd_api_Frame M (.slice (some ⟨g22, 0, none⟩) 1 1) [a0] [(g22, .cells #[(.int .i64 a0.Kind), v0_1] 40 (0, 0))] := OwnS.rows (css := [[(.int .i64 a0.Kind), v0_1]]) (Rows.cons (kd_api_Frame_mk (x := a0) h0_1) Rows.nil) rfl rfl
 obtain ⟨r25, hr26, h⟩ := bnd h
 refine WL.eff (EO.call1 co10 (Tri.lend h24.excl fun w0_ H0_ hs0_ => (f_law04_light_ok [a0] _ _ (h24.rs hs0_) r25 hr26)) (args1 rfl)) rfl ?_
 rintro _ _ _ hle28 ⟨_, ⟨Ml30, Hl31, hll32, rfl, rfl, ⟨rfl, rfl⟩⟩, rfl⟩
 have h0_1 := h0_1.mono hle28
 have h24 := h24.mono hle28
 have hE := hE.mono hle28
 refine WL.a1 ?_
 refine Pu (.bool (!r25)) (PO.not rfl) rfl ?_
 refine Nt ?_
 refine WC.cond (b := !r25) rfl (fun hb33 => ?_) (fun hb33 => ?_)
 have h := ite_t hb33 h
 refine Sr ?_
 obtain ⟨r34, hr35, h⟩ := bnd h
 refine WL.eff (EO.call0 co11 (f_law04_works_ok _ hE r34 hr35) (args0)) rfl ?_
 rintro _ M36 _ hle37 ⟨_, ⟨rfl, rfl⟩, rfl⟩
 have h0_1 := h0_1.mono hle37
 have hE := hE.mono hle37
 refine WL.a0 ?_
 refine Pa (.bool r34) rfl rfl ?_
 refine Nt ?_
 refine WC.ret ?_
 refine WQ.thenR ?_
 refine WQ.drop ?_
 refine WQ.drop ?_
 exact WQ.returnsF h [] rfl (results1 rfl rfl) (hle28.trans hle37) ⟨rfl, rfl⟩
 have h := ite_f hb33 h
 refine WC.skip ?_
 refine WQ.thenC ?_
 refine Sr ?_
 refine Pu (.agg #[(.int .i64 a0.Kind), v0_1]) (PO.loadBA (cs := [(.int .i64 a0.Kind), v0_1]) 1 ag40 sz40 rfl rfl rfl) rfl ?_
 obtain ⟨⟨r39, r40⟩, hr41, h⟩ := bnd h
 refine WL.eff (EO.call0 co17 (f_frame_Put_ok a0 _ _ h0_1 (r39, r40) hr41) (args1 rfl)) rfl ?_
 rintro _ M42 _ hle43 ⟨_, ⟨vq44, cq44, rfl, rfl, hq44⟩, rfl⟩
 have h0_1 := h0_1.mono hle43
 have hE := hE.mono hle43
 refine WL.a1 ?_
 refine Pm (.tuple #[vq44, (GV r40)]) rfl rfl ?_
 refine Pu vq44 (PO.extract rfl rfl) rfl ?_
 refine Pu (GV r40) (PO.extract rfl rfl) rfl ?_
 refine Pa vq44 rfl rfl ?_
 refine Pa (GV r40) rfl rfl ?_
 refine Ns ?_
 refine Pu (.agg #[(.int .i64 a0.Kind), v0_1]) (PO.loadBA (cs := [(.int .i64 a0.Kind), v0_1]) 2 ag40 sz40 rfl rfl rfl) rfl ?_
 obtain ⟨⟨r46, r47, r48⟩, hr49, h⟩ := bnd h
 refine WL.eff (EO.call0 co20 (f_ref04_Put_ok a0 _ _ h0_1 (r46, r47, r48) hr49) (args1 rfl)) rfl ?_
 rintro _ M50 _ hle51 ⟨_, ⟨vq52, cq52, rfl, rfl, hq52⟩, rfl⟩
 have hq44 := hq44.mono hle51
 have h0_1 := h0_1.mono hle51
 have hE := hE.mono hle51
 refine WL.a1 ?_
 refine Pm (.tuple #[vq52, (.int .i64 r47), (.int .i64 r48)]) rfl rfl ?_
 refine Pu vq52 (PO.extract rfl rfl) rfl ?_
 refine Pu (.int .i64 r47) (PO.extract rfl rfl) rfl ?_
 refine Pu (.int .i64 r48) (PO.extract rfl rfl) rfl ?_
 refine Pa vq52 rfl rfl ?_
 refine Pa (.int .i64 r47) rfl rfl ?_
 refine Pa (.int .i64 r48) rfl rfl ?_
 refine Nt ?_
 refine WC.seq ?_
 refine Sr ?_
 refine Pm (.int .i64 r47) rfl rfl ?_
 refine Pu (.bool (decide (r47 ≠ 0))) (PO.neq rfl rfl) rfl ?_
 refine Nt ?_
 refine WC.cond (b := decide (r47 ≠ 0)) rfl (fun hb55 => ?_) (fun hb55 => ?_)
 have h := ite_t hb55 h
 refine Sr ?_
 refine Pm (GV r40) rfl rfl ?_
 obtain ⟨⟨r56, r57⟩, hr58, h⟩ := bnd h
 refine WL.eff (EO.call0 co21 (f_fault_Where_ok r40 _ hE (r56, r57) hr58) (args1 rfl)) rfl ?_
 rintro _ M59 _ hle60 ⟨_, ⟨rfl, rfl⟩, rfl⟩
 have hq44 := hq44.mono hle60
 have hq52 := hq52.mono hle60
 have h0_1 := h0_1.mono hle60
 have hE := hE.mono hle60
 refine WL.a0 ?_
 refine Pm (.tuple #[(.int .i64 r56), (.bool r57)]) rfl rfl ?_
 refine Pu (.int .i64 r56) (PO.extract rfl rfl) rfl ?_
 refine Pu (.bool r57) (PO.extract rfl rfl) rfl ?_
 refine Pa (.int .i64 r56) rfl rfl ?_
 refine Pa (.bool r57) rfl rfl ?_
 refine Nt ?_
 obtain ⟨x63, hj64, h⟩ := bnd h
 refine WC.joinF (fun (x63 : Bool) ρ' M' H' => M59.le M' ∧ [(g21, .cells #[(.int .i64 a0.Kind), v0_1] 40 (0, 0))] :: F = H' ∧ ρ' 2 = (.bool x63)) x63 ?_ ?_
 have h364 := h
 have h := hj64
 refine WC.region ?_
 refine Pm vq44 rfl rfl ?_
 refine Pu (.int .i64 (r39.length : Int)) (PO.lenS Tryd.underlying26 rfl hq44.len) rfl ?_
 refine Pu (.bool (decide ((r39.length : Int) = (0 : Int)))) (PO.eql rfl rfl) rfl ?_
 refine Pm (.bool (decide ((r39.length : Int) = (0 : Int)))) rfl rfl ?_
 rcases Bool.eq_false_or_eq_true (decide ((r39.length : Int) = (0 : Int))) with hb65 | hb65
 have h := ite_t hb65 h
 refine On 36 rfl rfl hb65 ?_
 refine Pm (GV r40) rfl rfl ?_
 refine On 36 rfl rfl hb65 ?_
 obtain ⟨r66, hr67, h⟩ := bnd h
 refine WL.eff (EO.call0 co22 (f_fault_Of_ok r40 _ hE r66 hr67) (args1 rfl)) rfl ?_
 rintro _ M68 _ hle69 ⟨_, ⟨rfl, rfl⟩, rfl⟩
 have hq44 := hq44.mono hle69
 have h0_1 := h0_1.mono hle69
 have hE := hE.mono hle69
 refine WL.a0 ?_
 refine On 36 rfl rfl hb65 ?_
 refine Pm (.int .i64 r47) rfl rfl ?_
 refine On 36 rfl rfl hb65 ?_
 refine Pu (.bool (decide (r66 = r47))) (PO.eql rfl rfl) rfl ?_
 refine Pu (.bool (decide (r66 = r47))) (PO.pickT rfl hb65 rfl) rfl ?_
 refine Pm (.bool (decide (r66 = r47))) rfl rfl ?_
 rcases Bool.eq_false_or_eq_true (decide (r66 = r47)) with hb71 | hb71
 have h := ite_t hb71 h
 refine On 42 rfl rfl hb71 ?_
 refine Pm (.bool r57) rfl rfl ?_
 refine Pu (.bool r57) (PO.pickT rfl hb71 rfl) rfl ?_
 refine Pm (.bool r57) rfl rfl ?_
 rcases Bool.eq_false_or_eq_true (r57) with hb72 | hb72
 have h := ite_t hb72 h
 refine On 45 rfl rfl hb72 ?_
 refine Pm (.int .i64 r56) rfl rfl ?_
 refine On 45 rfl rfl hb72 ?_
 refine Pm (.int .i64 r48) rfl rfl ?_
 refine On 45 rfl rfl hb72 ?_
 refine Pu (.bool (decide (r56 = r48))) (PO.eql rfl rfl) rfl ?_
 refine Pu (.bool (decide (r56 = r48))) (PO.pickT rfl hb72 rfl) rfl ?_
 refine Pm (.bool (decide (r56 = r48))) rfl rfl ?_
 rcases Bool.eq_false_or_eq_true (decide (r56 = r48)) with hb73 | hb73
 have h := ite_t hb73 h
 refine On 50 rfl rfl hb73 ?_
 obtain ⟨r74, hr75, h⟩ := bnd h
 refine WL.eff (EO.call0 co11 (f_law04_works_ok _ hE r74 hr75) (args0)) rfl ?_
 rintro _ M76 _ hle77 ⟨_, ⟨rfl, rfl⟩, rfl⟩
 have hq44 := hq44.mono hle77
 have h0_1 := h0_1.mono hle77
 have hE := hE.mono hle77
 refine WL.a0 ?_
 refine Pu (.bool r74) (PO.pickT rfl hb73 rfl) rfl ?_
 refine Pa (.bool r74) rfl rfl ?_
 refine WL.nil ?_
 refine WQ.drop ?_
 refine WQ.drop ?_
 refine WQ.drop ?_
 obtain rfl := Option.some.inj h
 refine WQ.thenJ ?_
 exact ⟨(hle69.trans hle77), rfl, rfl⟩
 have h := ite_f hb73 h
 refine Of 50 rfl rfl hb73 rfl ?_
 refine Pu (.bool false) (PO.pickF rfl hb73 rfl) rfl ?_
 refine Pa (.bool false) rfl rfl ?_
 refine WL.nil ?_
 refine WQ.drop ?_
 refine WQ.drop ?_
 refine WQ.drop ?_
 obtain rfl := Option.some.inj h
 refine WQ.thenJ ?_
 exact ⟨hle69, rfl, rfl⟩
 have h := ite_f hb72 h
 iterate 3 refine Of 45 rfl rfl hb72 rfl ?_
 refine Pu (.bool false) (PO.pickF rfl hb72 rfl) rfl ?_
 refine Pm (.bool false) rfl rfl ?_
 refine Of 50 rfl rfl rfl rfl ?_
 refine Pu (.bool false) (PO.pickF rfl rfl rfl) rfl ?_
 refine Pa (.bool false) rfl rfl ?_
 refine WL.nil ?_
 refine WQ.drop ?_
 refine WQ.drop ?_
 refine WQ.drop ?_
 obtain rfl := Option.some.inj h
 refine WQ.thenJ ?_
 exact ⟨hle69, rfl, rfl⟩
 have h := ite_f hb71 h
 refine Of 42 rfl rfl hb71 rfl ?_
 refine Pu (.bool false) (PO.pickF rfl hb71 rfl) rfl ?_
 refine Pm (.bool false) rfl rfl ?_
 iterate 3 refine Of 45 rfl rfl rfl rfl ?_
 refine Pu (.bool false) (PO.pickF rfl rfl rfl) rfl ?_
 refine Pm (.bool false) rfl rfl ?_
 refine Of 50 rfl rfl rfl rfl ?_
 refine Pu (.bool false) (PO.pickF rfl rfl rfl) rfl ?_
 refine Pa (.bool false) rfl rfl ?_
 refine WL.nil ?_
 refine WQ.drop ?_
 refine WQ.drop ?_
 refine WQ.drop ?_
 obtain rfl := Option.some.inj h
 refine WQ.thenJ ?_
 exact ⟨hle69, rfl, rfl⟩
 have h := ite_f hb65 h
 iterate 4 refine Of 36 rfl rfl hb65 rfl ?_
 refine Pu (.bool false) (PO.pickF rfl hb65 rfl) rfl ?_
 refine Pm (.bool false) rfl rfl ?_
 refine Of 42 rfl rfl rfl rfl ?_
 refine Pu (.bool false) (PO.pickF rfl rfl rfl) rfl ?_
 refine Pm (.bool false) rfl rfl ?_
 iterate 3 refine Of 45 rfl rfl rfl rfl ?_
 refine Pu (.bool false) (PO.pickF rfl rfl rfl) rfl ?_
 refine Pm (.bool false) rfl rfl ?_
 refine Of 50 rfl rfl rfl rfl ?_
 refine Pu (.bool false) (PO.pickF rfl rfl rfl) rfl ?_
 refine Pa (.bool false) rfl rfl ?_
 refine WL.nil ?_
 refine WQ.drop ?_
 refine WQ.drop ?_
 refine WQ.drop ?_
 obtain rfl := Option.some.inj h
 refine WQ.thenJ ?_
 exact ⟨(IM.le.refl _), rfl, rfl⟩
 rintro ρ64 M64 H64 ⟨hle64, rfl, hs64_2⟩
 have h0_1 := h0_1.mono hle64
 have hE := hE.mono hle64
 refine WC.ret ?_
 refine WQ.thenR ?_
 refine WQ.drop ?_
 exact WQ.returnsF h [] rfl (results1 rfl hs64_2) ((((hle28.trans hle43).trans hle51).trans hle60).trans hle64) ⟨rfl, rfl⟩
 have h := ite_f hb55 h
 refine WC.skip ?_
 refine WQ.thenC ?_
 obtain ⟨x79, hj80, h⟩ := bnd h
 refine WC.joinF (fun (x79 : Bool) ρ' M' H' => M50.le M' ∧ [(g21, .cells #[(.int .i64 a0.Kind), v0_1] 40 (0, 0))] :: F = H' ∧ ρ' 2 = (.bool x79)) x79 ?_ ?_
 have h380 := h
 have h := hj80
 refine WC.region ?_
 refine Pm (GV r40) rfl rfl ?_
 refine Pu (.bool r40.isNil) (PO.errNil Tryd.underlying28 rfl) rfl ?_
 refine Pm (.bool r40.isNil) rfl rfl ?_
 rcases Bool.eq_false_or_eq_true (r40.isNil) with hb81 | hb81
 have h := ite_t hb81 h
 refine On 55 rfl rfl hb81 ?_
 refine Pm vq44 rfl rfl ?_
 refine On 55 rfl rfl hb81 ?_
 refine Pm vq52 rfl rfl ?_
 refine On 55 rfl rfl hb81 ?_
 obtain ⟨r82, hr83, h⟩ := bnd h
 refine WL.f1 ?_
 refine WL.eff (EO.call2 co19 (Tri.lend hq44.excl fun w0_ H0_ hs0_ => (Tri.lend hq52.excl fun w1_ H1_ hs1_ => (f_ref02_Same_ok r39 r46 _ _ _ ((hq44.rs hs0_).mono (IM.le_add _ _)) ((hq52.mono (IM.le_add _ _)).rs hs1_) r82 hr83))) (args2 rfl rfl)) rfl ?_
 rintro _ _ _ hle85 ⟨_, ⟨Ml90, Hl91, hll92, rfl, rfl, ⟨Ml87, Hl88, hll89, rfl, rfl, ⟨rfl, rfl⟩⟩⟩, rfl⟩
 have hq44 := hq44.mono hle85
 have hq52 := hq52.mono hle85
 have h0_1 := h0_1.mono hle85
 have hE := hE.mono hle85
 refine WL.a2 ?_
 refine Pu (.bool r82) (PO.pickT rfl hb81 rfl) rfl ?_
 refine Pm (.bool r82) rfl rfl ?_
 rcases Bool.eq_false_or_eq_true (r82) with hb93 | hb93
 have h := ite_t hb93 h
 refine On 60 rfl rfl hb93 ?_
 obtain ⟨r94, hr95, h⟩ := bnd h
 refine WL.eff (EO.call0 co11 (f_law04_works_ok _ hE r94 hr95) (args0)) rfl ?_
 rintro _ M96 _ hle97 ⟨_, ⟨rfl, rfl⟩, rfl⟩
 have hq44 := hq44.mono hle97
 have hq52 := hq52.mono hle97
 have h0_1 := h0_1.mono hle97
 have hE := hE.mono hle97
 refine WL.a0 ?_
 refine Pu (.bool r94) (PO.pickT rfl hb93 rfl) rfl ?_
 refine Pa (.bool r94) rfl rfl ?_
 refine WL.nil ?_
 refine WQ.drop ?_
 refine WQ.drop ?_
 refine WQ.drop ?_
 obtain rfl := Option.some.inj h
 refine WQ.thenJ ?_
 exact ⟨(hle85.trans hle97), rfl, rfl⟩
 have h := ite_f hb93 h
 refine Of 60 rfl rfl hb93 rfl ?_
 refine Pu (.bool false) (PO.pickF rfl hb93 rfl) rfl ?_
 refine Pa (.bool false) rfl rfl ?_
 refine WL.nil ?_
 refine WQ.drop ?_
 refine WQ.drop ?_
 refine WQ.drop ?_
 obtain rfl := Option.some.inj h
 refine WQ.thenJ ?_
 exact ⟨hle85, rfl, rfl⟩
 have h := ite_f hb81 h
 iterate 3 refine Of 55 rfl rfl hb81 rfl ?_
 refine Pu (.bool false) (PO.pickF rfl hb81 rfl) rfl ?_
 refine Pm (.bool false) rfl rfl ?_
 refine Of 60 rfl rfl rfl rfl ?_
 refine Pu (.bool false) (PO.pickF rfl rfl rfl) rfl ?_
 refine Pa (.bool false) rfl rfl ?_
 refine WL.nil ?_
 refine WQ.drop ?_
 refine WQ.drop ?_
 refine WQ.drop ?_
 obtain rfl := Option.some.inj h
 refine WQ.thenJ ?_
 exact ⟨(IM.le.refl _), rfl, rfl⟩
 rintro ρ80 M80 H80 ⟨hle80, rfl, hs80_2⟩
 have h0_1 := h0_1.mono hle80
 have hE := hE.mono hle80
 refine WC.ret ?_
 refine WQ.drop ?_
 exact WQ.returnsF h [] rfl (results1 rfl hs80_2) (((hle28.trans hle43).trans hle51).trans hle80) ⟨rfl, rfl⟩

noncomputable def f_ref02_above (a0 : Int) : Option Int :=
  (if (decide (a0 < (0 : Int))) = true then (some (0 : Int)) else (some (IntKind.u64.wrap a0)))
def f_ref02_above_post (a0 : Int) : Int → Value → IM → HL → Prop :=
  fun (r0 : Int) (v : Value) (M' : IM) (H' : HL) => (.int .u64 r0) = v ∧ H' = []
theorem f_ref02_above_ok (a0 : Int) (M : IM) (res : Int) (h : f_ref02_above a0 = some res) :
    Tri Tryd.prog 70 #[(.int .i64 a0)] M [] (f_ref02_above_post a0 res) := by
 unfold f_ref02_above at h
 refine Tri.enter (fn := Tryd.f70) Tryd.func70 rfl (Nat.le_of_ble_eq_true rfl) ?_
 intro F ρ hρ
 refine Sr ?_
 refine Pa (.int .u64 0) rfl rfl ?_
 refine Nt ?_
 refine WC.seq ?_
 refine Sr ?_
 refine Pm (.int .i64 a0) (hρ 0) rfl ?_
 refine Pu (.bool (decide (a0 < 0))) (PO.lss rfl rfl) rfl ?_
 refine Nt ?_
 refine WC.cond (b := decide (a0 < 0)) rfl (fun hb21 => ?_) (fun hb21 => ?_)
 have h := ite_t hb21 h
 refine Sr ?_
 refine Pa (.int .u64 0) rfl rfl ?_
 refine Nt ?_
 refine WC.ret ?_
 refine WQ.thenR ?_
 exact WQ.returnsF h [] rfl (results1 rfl rfl) (IM.le.refl _) ⟨rfl, rfl⟩
 have h := ite_f hb21 h
 refine WC.skip ?_
 refine WQ.thenC ?_
 refine Sr ?_
 refine Pm (.int .i64 a0) (hρ 0) rfl ?_
 refine Pu (.int .u64 (IntKind.u64.wrap a0)) (PO.conv us3 Tryd.underlying42 rfl) rfl ?_
 refine Pa (.int .u64 (IntKind.u64.wrap a0)) rfl rfl ?_
 refine Nt ?_
 refine WC.ret ?_
 exact WQ.returnsF h [] rfl (results1 rfl rfl) (IM.le.refl _) ⟨rfl, rfl⟩

noncomputable def f_ref02_bad (a0 : T_ref02_State) (a1 : ByteArray) (a2 : Int) (a3 : Int) : Option T_ref02_State :=
  (if (decide (a0.Code ≠ (0 : Int))) = true then (some a0) else (some (⟨a0.At, a3, a1, a2⟩ : T_ref02_State)))
def f_ref02_bad_post (a0 : T_ref02_State) (a1 : ByteArray) (a2 : Int) (a3 : Int) : T_ref02_State → Value → IM → HL → Prop :=
  fun (r0 : T_ref02_State) (v : Value) (M' : IM) (H' : HL) => (.agg #[(.int .i64 r0.At), (.int .i64 r0.Code), (.string r0.Op), (.int .i64 r0.Where)]) = v ∧ H' = []
theorem f_ref02_bad_ok (a0 : T_ref02_State) (a1 : ByteArray) (a2 : Int) (a3 : Int) (M : IM) (res : T_ref02_State) (h : f_ref02_bad a0 a1 a2 a3 = some res) :
    Tri Tryd.prog 71 #[(a94_ a0), (.string a1), (.int .i64 a2), (.int .i64 a3)] M [] (f_ref02_bad_post a0 a1 a2 a3 res) := by
 unfold f_ref02_bad at h
 refine Tri.enter (fn := Tryd.f71) Tryd.func71 rfl (Nat.le_of_ble_eq_true rfl) ?_
 intro F ρ hρ
 refine Sr ?_
 refine WL.eff (EO.box (cs := (l94 a0).toArray) (congrArg Value.cells (asE (a94_ a0) (hρ 0)))) rfl ?_
 rintro _ _ _ - ⟨rfl, g21, rfl, rfl⟩
 refine WL.eff (EO.alloc ze94 rfl) rfl ?_
 rintro _ _ _ - ⟨rfl, g22, rfl, rfl⟩
 refine Nt ?_
 refine WC.seq ?_
 refine Sr ?_
 refine Pu (pt g21 1) (PO.fieldAddr fo94_1 rfl rfl) rfl ?_
 refine Pu (.int .i64 a0.Code) (PO.loadB 1 pl47 rfl rfl rfl) rfl ?_
 refine Pu (.bool (decide (a0.Code ≠ 0))) (PO.neq rfl rfl) rfl ?_
 refine Nt ?_
 refine WC.cond (b := decide (a0.Code ≠ 0)) rfl (fun hb23 => ?_) (fun hb23 => ?_)
 have h := ite_t hb23 h
 refine Sr ?_
 refine Pu (a94_ a0) (PO.loadBA (cs := (l94 a0)) 1 ag94 sz94 rfl rfl rfl) rfl ?_
 refine WL.eff (EO.storeL (v := (a94_ a0)) (vl := (l94 a0)) (arr' := (l94 a0)) rfl sz94 rfl rfl (onesOf (Ones.cons rfl (Ones.cons rfl (Ones.cons rfl (Ones.cons rfl Ones.nil))))) rfl rfl rfl) rfl ?_
 rintro _ _ _ - ⟨rfl, rfl⟩
 refine Nt ?_
 refine WC.ret ?_
 refine WQ.thenR ?_
 refine WQ.f1 ?_
 refine WQ.drop ?_
 exact WQ.returnsD h [] (fun _ hs => hs.drop) (resultsL1 rfl (RV.cellA (cs := (l94 a0)) 0 ag94 sz94 rfl rfl rfl)) (IM.le.refl _) ⟨rfl, rfl⟩
 have h := ite_f hb23 h
 refine WC.skip ?_
 refine WQ.thenC ?_
 refine Sr ?_
 refine Pu (pt g21 0) (PO.fieldAddr fo94_0 rfl rfl) rfl ?_
 refine Pu (.int .i64 a0.At) (PO.loadB 1 pl3 rfl rfl rfl) rfl ?_
 refine Pm (.int .i64 a3) (hρ 3) rfl ?_
 refine Pm (.string a1) (hρ 1) rfl ?_
 refine Pm (.int .i64 a2) (hρ 2) rfl ?_
 refine Pu (.agg #[(.int .i64 a0.At), (.int .i64 a3), (.string a1), (.int .i64 a2)]) (PO.buildL (cl := [(.int .i64 a0.At), (.int .i64 a3), (.string a1), (.int .i64 a2)]) ze94 fp94 (Parts.cons (congrArg Value.cells (show ev _ _ = (.int .i64 a0.At) from rfl)) (Parts.cons (congrArg Value.cells (show ev _ _ = (.int .i64 a3) from rfl)) (Parts.cons (congrArg Value.cells (show ev _ _ = (.string a1) from rfl)) (Parts.cons (congrArg Value.cells (show ev _ _ = (.int .i64 a2) from rfl)) Parts.nil)))) rfl) rfl ?_
 refine WL.eff (EO.storeL (v := (.agg #[(.int .i64 a0.At), (.int .i64 a3), (.string a1), (.int .i64 a2)])) (vl := [(.int .i64 a0.At), (.int .i64 a3), (.string a1), (.int .i64 a2)]) (arr' := [(.int .i64 a0.At), (.int .i64 a3), (.string a1), (.int .i64 a2)]) rfl sz94 rfl rfl (onesOf (Ones.cons rfl (Ones.cons rfl (Ones.cons rfl (Ones.cons rfl Ones.nil))))) rfl rfl rfl) rfl ?_
 rintro _ _ _ - ⟨rfl, rfl⟩
 refine Nt ?_
 refine WC.ret ?_
 refine WQ.f1 ?_
 refine WQ.drop ?_
 exact WQ.returnsD h [] (fun _ hs => hs.drop) (resultsL1 rfl (RV.cellA (cs := [(.int .i64 a0.At), (.int .i64 a3), (.string a1), (.int .i64 a2)]) 0 ag94 sz94 rfl rfl rfl)) (IM.le.refl _) ⟨rfl, rfl⟩

noncomputable def f_ref02_num_l0 (s_ : (Int × Int)) : Option ((Int × Int) ⊕ Int) :=
  match s_ with
  | (x40, x41) =>
    (if (decide ((0 : Int) < x41)) = true then (some (Sum.inl (IntKind.i64.wrap (x40 * (2 : Int)), IntKind.u8.wrap (x41 - (1 : Int))))) else (some (Sum.inr x40)))
noncomputable def f_ref02_num_l1 (a0 : (List Int)) (a1 : T_ref02_State) (x30 : Int) (s_ : (Int × Int)) : Option ((Int × Int) ⊕ Int) :=
  match s_ with
  | (x60, x61) =>
    (if (decide (x61 < x30)) = true then (grd (0 ≤ IntKind.i64.wrap (a1.At + x61) ∧ IntKind.i64.wrap (a1.At + x61) < a0.length) (some (Sum.inl (IntKind.u64.wrap ((IntKind.u64.wrap (x60 * (256 : Int))) + (IntKind.u64.wrap (rd a0 (IntKind.i64.wrap (a1.At + x61))))), IntKind.i64.wrap (x61 + (1 : Int)))))) else (some (Sum.inr x60)))
noncomputable def f_ref02_num (a0 : (List Int)) (a1 : T_ref02_State) (a2 : Int) : Option (T_ref02_State × Int) :=
  (if (decide (a1.Code ≠ (0 : Int))) = true then (some (a1, (0 : Int))) else (if (decide ((a0.length : Int) ≤ a1.At)) = true then ((f_ref02_bad a1 (⟨#[110, 117, 109]⟩ : ByteArray) a1.At (3 : Int)).bind fun (r25 : T_ref02_State) => (some (r25, (0 : Int)))) else (((grd (0 ≤ a1.At ∧ a1.At < a0.length) ((iter (f_ref02_num_l0) ((1 : Int), IntKind.u8.wrap ((rd a0 a1.At).tdiv (64 : Int)))).bind (fun (x42 : Int) => (some x42)))) : Option Int).bind fun (x30 : Int) => (if (decide ((a0.length : Int) < (IntKind.i64.wrap (a1.At + x30)))) = true then ((f_ref02_bad a1 (⟨#[110, 117, 109]⟩ : ByteArray) a1.At (3 : Int)).bind fun (r45 : T_ref02_State) => (some (r45, (0 : Int)))) else (grd (0 ≤ a1.At ∧ a1.At < a0.length) ((((iter (f_ref02_num_l1 a0 a1 x30) (IntKind.u64.wrap ((rd a0 a1.At).tmod (64 : Int)), (1 : Int))).bind (fun (x62 : Int) => (some x62))) : Option Int).bind fun (x57 : Int) => ((f_ref02_size x57).bind fun (r71 : Int) => (if (decide (r71 ≠ x30)) = true then ((f_ref02_bad a1 (⟨#[110, 117, 109]⟩ : ByteArray) a1.At (5 : Int)).bind fun (r77 : T_ref02_State) => (some (r77, (0 : Int)))) else (if (decide (a2 < x57)) = true then ((f_ref02_bad a1 (⟨#[110, 117, 109]⟩ : ByteArray) a1.At (6 : Int)).bind fun (r83 : T_ref02_State) => (some (r83, (0 : Int)))) else (some ((⟨IntKind.i64.wrap (a1.At + x30), (0 : Int), (⟨#[]⟩ : ByteArray), (0 : Int)⟩ : T_ref02_State), x57)))))))))))
def f_ref02_num_post (a0 : (List Int)) (a1 : T_ref02_State) (a2 : Int) (v0 : Value) : (T_ref02_State × Int) → Value → IM → HL → Prop :=
  fun (p_ : (T_ref02_State × Int)) (v : Value) (M' : IM) (H' : HL) => match p_ with | (r0, r1) => (.tuple #[(.agg #[(.int .i64 r0.At), (.int .i64 r0.Code), (.string r0.Op), (.int .i64 r0.Where)]), (.int .u64 r1)]) = v ∧ H' = []
theorem f_ref02_num_ok (a0 : (List Int)) (a1 : T_ref02_State) (a2 : Int) (M : IM) (v0 : Value) (h0 : RS (Kd.int .u8) M v0 a0) (res : (T_ref02_State × Int)) (h : f_ref02_num a0 a1 a2 = some res) :
    Tri Tryd.prog 69 #[v0, (a94_ a1), (.int .u64 a2)] M [] (f_ref02_num_post a0 a1 a2 v0 res) := by
 unfold f_ref02_num at h
 refine Tri.enter (fn := Tryd.f69) Tryd.func69 rfl (Nat.le_of_ble_eq_true rfl) ?_
 intro F ρ hρ
 refine Sr ?_
 refine WL.eff (EO.box (cs := (l94 a1).toArray) (congrArg Value.cells (asE (a94_ a1) (hρ 1)))) rfl ?_
 rintro _ _ _ - ⟨rfl, g21, rfl, rfl⟩
 refine WL.eff (EO.alloc ze94 rfl) rfl ?_
 rintro _ _ _ - ⟨rfl, g22, rfl, rfl⟩
 refine Pa (.int .u64 0) rfl rfl ?_
 refine Nt ?_
 refine WC.seq ?_
 refine Sr ?_
 refine Pu (pt g21 1) (PO.fieldAddr fo94_1 rfl rfl) rfl ?_
 refine Pu (.int .i64 a1.Code) (PO.loadB 1 pl47 rfl rfl rfl) rfl ?_
 refine Pu (.bool (decide (a1.Code ≠ 0))) (PO.neq rfl rfl) rfl ?_
 refine Nt ?_
 refine WC.cond (b := decide (a1.Code ≠ 0)) rfl (fun hb23 => ?_) (fun hb23 => ?_)
 have h := ite_t hb23 h
 refine Sr ?_
 refine Pu (a94_ a1) (PO.loadBA (cs := (l94 a1)) 1 ag94 sz94 rfl rfl rfl) rfl ?_
 refine WL.eff (EO.storeL (v := (a94_ a1)) (vl := (l94 a1)) (arr' := (l94 a1)) rfl sz94 rfl rfl (onesOf (Ones.cons rfl (Ones.cons rfl (Ones.cons rfl (Ones.cons rfl Ones.nil))))) rfl rfl rfl) rfl ?_
 rintro _ _ _ - ⟨rfl, rfl⟩
 refine Pa (.int .u64 0) rfl rfl ?_
 refine Nt ?_
 refine WC.ret ?_
 refine WQ.thenR ?_
 refine WQ.f1 ?_
 refine WQ.drop ?_
 exact WQ.returnsD h [] (fun _ hs => hs.drop) (resultsLN rfl (RVs.cons (RV.cellA (cs := (l94 a1)) 0 ag94 sz94 rfl rfl rfl) (RVs.cons (RV.tmp rfl) RVs.nil))) (IM.le.refl _) ⟨rfl, rfl⟩
 have h := ite_f hb23 h
 refine WC.skip ?_
 refine WQ.thenC ?_
 refine WC.seq ?_
 refine Sr ?_
 refine Pu (pt g21 0) (PO.fieldAddr fo94_0 rfl rfl) rfl ?_
 refine Pu (.int .i64 a1.At) (PO.loadB 1 pl3 rfl rfl rfl) rfl ?_
 refine Pm v0 (hρ 0) rfl ?_
 refine Pu (.int .i64 (a0.length : Int)) (PO.lenS Tryd.underlying26 rfl h0.len) rfl ?_
 refine Pu (.bool (decide ((a0.length : Int) ≤ a1.At))) (PO.geq rfl rfl) rfl ?_
 refine Nt ?_
 refine WC.cond (b := decide ((a0.length : Int) ≤ a1.At)) rfl (fun hb24 => ?_) (fun hb24 => ?_)
 have h := ite_t hb24 h
 refine Sr ?_
 refine Pu (a94_ a1) (PO.loadBA (cs := (l94 a1)) 1 ag94 sz94 rfl rfl rfl) rfl ?_
 refine Pu (pt g21 0) (PO.fieldAddr fo94_0 rfl rfl) rfl ?_
 refine Pu (.int .i64 a1.At) (PO.loadB 1 pl3 rfl rfl rfl) rfl ?_
 obtain ⟨r25, hr26, h⟩ := bnd h
 refine WL.eff (EO.call0 co71 (f_ref02_bad_ok a1 (⟨#[110, 117, 109]⟩ : ByteArray) a1.At (3 : Int) _ r25 hr26) (args4 rfl rfl rfl rfl)) rfl ?_
 rintro _ M27 _ hle28 ⟨_, ⟨rfl, rfl⟩, rfl⟩
 have h0 := h0.mono hle28
 refine WL.a0 ?_
 refine WL.eff (EO.storeL (v := (a94_ r25)) (vl := (l94 r25)) (arr' := (l94 r25)) rfl sz94 rfl rfl (onesOf (Ones.cons rfl (Ones.cons rfl (Ones.cons rfl (Ones.cons rfl Ones.nil))))) rfl rfl rfl) rfl ?_
 rintro _ _ _ - ⟨rfl, rfl⟩
 refine Pa (.int .u64 0) rfl rfl ?_
 refine Nt ?_
 refine WC.ret ?_
 refine WQ.thenR ?_
 refine WQ.f1 ?_
 refine WQ.drop ?_
 exact WQ.returnsD h [] (fun _ hs => hs.drop) (resultsLN rfl (RVs.cons (RV.cellA (cs := (l94 r25)) 0 ag94 sz94 rfl rfl rfl) (RVs.cons (RV.tmp rfl) RVs.nil))) hle28 ⟨rfl, rfl⟩
 have h := ite_f hb24 h
 refine WC.skip ?_
 refine WQ.thenC ?_
 refine Sr ?_
 refine Pa (.int .i64 1) rfl rfl ?_
 refine Nt ?_
 obtain ⟨x30, hj31, h⟩ := bnd h
 refine WC.joinF (fun (x30 : Int) ρ' M' H' => M.le M' ∧ [(g22, .cells z94_.toArray 94 (0, 0))] :: [(g21, .cells (l94 a1).toArray 94 (0, 0))] :: F = H' ∧ ρ' 0 = v0 ∧ ρ' 2 = (.int .u64 a2) ∧ ρ' 4 = (pt g21 0) ∧ ρ' 6 = (pt g22 0) ∧ ρ' 8 = (.int .i64 x30)) x30 ?_ ?_
 have h331 := h
 have h := hj31
 refine Sr ?_
 refine Pm v0 (hρ 0) rfl ?_
 refine Pu (pt g21 0) (PO.fieldAddr fo94_0 rfl rfl) rfl ?_
 refine Pu (.int .i64 a1.At) (PO.loadB 1 pl3 rfl rfl rfl) rfl ?_
 obtain ⟨hg32, h⟩ := grd_i h
 obtain ⟨p33, cs34, hat35, hrc36, hhas37⟩ := h0.at hg32.1 hg32.2 (by decide)
 obtain rfl := hrc36
 refine Pu (.pointer (some p33)) (PO.indexAddr (n := a0.length) Tryd.underlying26 sz5 rfl rfl hg32.1 hg32.2 hat35) rfl ?_
 refine Pu (.int .u8 (rd a0 a1.At)) (PO.loadM pl5 rfl (IM.has0 hhas37)) rfl ?_
 refine Pu (.int .u8 (IntKind.u8.wrap ((rd a0 a1.At).tdiv (64 : Int)))) (PO.quo rfl rfl (by decide)) rfl ?_
 refine Pa (.int .u8 (IntKind.u8.wrap ((rd a0 a1.At).tdiv (64 : Int)))) rfl rfl ?_
 refine Nt ?_
 refine WC.block ?_
 obtain ⟨e39, he39, hK39⟩ := bnd h
 clear h
 refine WC.loop he39 (fun (p_ : (Int × Int)) ρ' M' H' => match p_ with | (x40, x41) => M.le M' ∧ [(g22, .cells z94_.toArray 94 (0, 0))] :: [(g21, .cells (l94 a1).toArray 94 (0, 0))] :: F = H' ∧ ρ' 0 = v0 ∧ ρ' 2 = (.int .u64 a2) ∧ ρ' 4 = (pt g21 0) ∧ ρ' 6 = (pt g22 0) ∧ ρ' 8 = (.int .i64 x40) ∧ ρ' 9 = (.int .u8 x41)) ?_ ?_
 exact ⟨(IM.le.refl _), rfl, (hρ 0), (hρ 2), rfl, rfl, rfl, rfl⟩
 rintro ⟨x40, x41⟩ o39 ρ39 M39 H39 h ⟨hle39, rfl, hs39_0, hs39_2, hs39_4, hs39_6, hs39_8, hs39_9⟩
 unfold f_ref02_num_l0 at h
 have h0 := h0.mono hle39
 refine WC.seq ?_
 refine Sr ?_
 refine Pm (.int .u8 x41) hs39_9 rfl ?_
 refine Pu (.bool (decide ((0 : Int) < x41))) (PO.gtr rfl rfl) rfl ?_
 refine Nt ?_
 refine WC.cond (b := decide ((0 : Int) < x41)) rfl (fun hb43 => ?_) (fun hb43 => ?_)
 have h := ite_t hb43 h
 refine WC.skip ?_
 refine WQ.thenC ?_
 refine WC.seq ?_
 refine WC.block ?_
 refine WC.region ?_
 refine Pm (.int .i64 x40) hs39_8 rfl ?_
 refine Pu (.int .i64 (IntKind.i64.wrap (x40 * (2 : Int)))) (PO.mul rfl rfl) rfl ?_
 refine Pa (.int .i64 (IntKind.i64.wrap (x40 * (2 : Int)))) rfl rfl ?_
 refine WL.nil ?_
 refine WQ.blockN ?_
 refine WQ.thenC ?_
 refine WC.region ?_
 refine Pm (.int .u8 x41) hs39_9 rfl ?_
 refine Pu (.int .u8 (IntKind.u8.wrap (x41 - 1))) (PO.sub rfl rfl) rfl ?_
 refine Pa (.int .u8 (IntKind.u8.wrap (x41 - 1))) rfl rfl ?_
 refine WL.nil ?_
 refine WQ.again (IntKind.i64.wrap (x40 * (2 : Int)), IntKind.u8.wrap (x41 - 1)) (Option.some.inj h).symm ?_
 exact ⟨hle39, rfl, hs39_0, hs39_2, hs39_4, hs39_6, rfl, rfl⟩
 have h := ite_f hb43 h
 refine WC.exit ?_
 refine WQ.thenE ?_
 refine WQ.leaveE x40 (Option.some.inj h).symm (fun heq39 => ?_)
 subst heq39
 have h := hK39
 refine WQ.blockH ?_
 obtain rfl := Option.some.inj h
 refine WQ.thenJ ?_
 exact ⟨hle39, rfl, hs39_0, hs39_2, hs39_4, hs39_6, hs39_8⟩
 rintro ρ31 M31 H31 ⟨hle31, rfl, hs31_0, hs31_2, hs31_4, hs31_6, hs31_8⟩
 have h0 := h0.mono hle31
 refine WC.seq ?_
 refine Sr ?_
 refine Pu (pt g21 0) (PO.fieldAddr fo94_0 hs31_4 rfl) rfl ?_
 refine Pu (.int .i64 a1.At) (PO.loadB 1 pl3 rfl rfl rfl) rfl ?_
 refine Pm (.int .i64 x30) hs31_8 rfl ?_
 refine Pu (.int .i64 (IntKind.i64.wrap (a1.At + x30))) (PO.add rfl rfl) rfl ?_
 refine Pm v0 hs31_0 rfl ?_
 refine Pu (.int .i64 (a0.length : Int)) (PO.lenS Tryd.underlying26 rfl h0.len) rfl ?_
 refine Pu (.bool (decide ((a0.length : Int) < (IntKind.i64.wrap (a1.At + x30))))) (PO.gtr rfl rfl) rfl ?_
 refine Nt ?_
 refine WC.cond (b := decide ((a0.length : Int) < (IntKind.i64.wrap (a1.At + x30)))) rfl (fun hb44 => ?_) (fun hb44 => ?_)
 have h := ite_t hb44 h
 refine Sr ?_
 refine Pu (a94_ a1) (PO.loadBA (cs := (l94 a1)) 1 ag94 sz94 hs31_4 rfl rfl) rfl ?_
 refine Pu (pt g21 0) (PO.fieldAddr fo94_0 hs31_4 rfl) rfl ?_
 refine Pu (.int .i64 a1.At) (PO.loadB 1 pl3 rfl rfl rfl) rfl ?_
 obtain ⟨r45, hr46, h⟩ := bnd h
 refine WL.eff (EO.call0 co71 (f_ref02_bad_ok a1 (⟨#[110, 117, 109]⟩ : ByteArray) a1.At (3 : Int) _ r45 hr46) (args4 rfl rfl rfl rfl)) rfl ?_
 rintro _ M47 _ hle48 ⟨_, ⟨rfl, rfl⟩, rfl⟩
 have h0 := h0.mono hle48
 refine WL.a0 ?_
 refine WL.eff (EO.storeL (v := (a94_ r45)) (vl := (l94 r45)) (arr' := (l94 r45)) rfl sz94 hs31_6 rfl (onesOf (Ones.cons rfl (Ones.cons rfl (Ones.cons rfl (Ones.cons rfl Ones.nil))))) rfl rfl rfl) rfl ?_
 rintro _ _ _ - ⟨rfl, rfl⟩
 refine Pa (.int .u64 0) rfl rfl ?_
 refine Nt ?_
 refine WC.ret ?_
 refine WQ.thenR ?_
 refine WQ.f1 ?_
 refine WQ.drop ?_
 exact WQ.returnsD h [] (fun _ hs => hs.drop) (resultsLN rfl (RVs.cons (RV.cellA (cs := (l94 r45)) 0 ag94 sz94 hs31_6 rfl rfl) (RVs.cons (RV.tmp rfl) RVs.nil))) (hle31.trans hle48) ⟨rfl, rfl⟩
 have h := ite_f hb44 h
 refine WC.skip ?_
 refine WQ.thenC ?_
 refine Sr ?_
 refine Pm v0 hs31_0 rfl ?_
 refine Pu (pt g21 0) (PO.fieldAddr fo94_0 hs31_4 rfl) rfl ?_
 refine Pu (.int .i64 a1.At) (PO.loadB 1 pl3 rfl rfl rfl) rfl ?_
 obtain ⟨hg50, h⟩ := grd_i h
 obtain ⟨p51, cs52, hat53, hrc54, hhas55⟩ := h0.at hg50.1 hg50.2 (by decide)
 obtain rfl := hrc54
 refine Pu (.pointer (some p51)) (PO.indexAddr (n := a0.length) Tryd.underlying26 sz5 rfl rfl hg50.1 hg50.2 hat53) rfl ?_
 refine Pu (.int .u8 (rd a0 a1.At)) (PO.loadM pl5 rfl (IM.has0 hhas55)) rfl ?_
 refine Pu (.int .u8 ((rd a0 a1.At).tmod (64 : Int))) (PO.rem rfl rfl (by decide)) rfl ?_
 refine Pu (.int .u64 (IntKind.u64.wrap ((rd a0 a1.At).tmod (64 : Int)))) (PO.conv us5 Tryd.underlying42 rfl) rfl ?_
 refine Pa (.int .u64 (IntKind.u64.wrap ((rd a0 a1.At).tmod (64 : Int)))) rfl rfl ?_
 refine Nt ?_
 obtain ⟨x57, hj58, h⟩ := bnd h
 refine WC.joinF (fun (x57 : Int) ρ' M' H' => M31.le M' ∧ [(g22, .cells z94_.toArray 94 (0, 0))] :: [(g21, .cells (l94 a1).toArray 94 (0, 0))] :: F = H' ∧ ρ' 2 = (.int .u64 a2) ∧ ρ' 4 = (pt g21 0) ∧ ρ' 6 = (pt g22 0) ∧ ρ' 8 = (.int .i64 x30) ∧ ρ' 10 = (.int .u64 x57)) x57 ?_ ?_
 have h358 := h
 have h := hj58
 refine Sr ?_
 refine Pa (.int .i64 1) rfl rfl ?_
 refine Nt ?_
 refine WC.block ?_
 obtain ⟨e59, he59, hK59⟩ := bnd h
 clear h
 refine WC.loop he59 (fun (p_ : (Int × Int)) ρ' M' H' => match p_ with | (x60, x61) => M31.le M' ∧ [(g22, .cells z94_.toArray 94 (0, 0))] :: [(g21, .cells (l94 a1).toArray 94 (0, 0))] :: F = H' ∧ ρ' 0 = v0 ∧ ρ' 2 = (.int .u64 a2) ∧ ρ' 4 = (pt g21 0) ∧ ρ' 6 = (pt g22 0) ∧ ρ' 8 = (.int .i64 x30) ∧ ρ' 10 = (.int .u64 x60) ∧ ρ' 11 = (.int .i64 x61)) ?_ ?_
 exact ⟨(IM.le.refl _), rfl, hs31_0, hs31_2, hs31_4, hs31_6, hs31_8, rfl, rfl⟩
 rintro ⟨x60, x61⟩ o59 ρ59 M59 H59 h ⟨hle59, rfl, hs59_0, hs59_2, hs59_4, hs59_6, hs59_8, hs59_10, hs59_11⟩
 unfold f_ref02_num_l1 at h
 have h0 := h0.mono hle59
 refine WC.seq ?_
 refine Sr ?_
 refine Pm (.int .i64 x61) hs59_11 rfl ?_
 refine Pm (.int .i64 x30) hs59_8 rfl ?_
 refine Pu (.bool (decide (x61 < x30))) (PO.lss rfl rfl) rfl ?_
 refine Nt ?_
 refine WC.cond (b := decide (x61 < x30)) rfl (fun hb63 => ?_) (fun hb63 => ?_)
 have h := ite_t hb63 h
 refine WC.skip ?_
 refine WQ.thenC ?_
 refine WC.seq ?_
 refine WC.block ?_
 refine WC.region ?_
 refine Pm (.int .u64 x60) hs59_10 rfl ?_
 refine Pu (.int .u64 (IntKind.u64.wrap (x60 * (256 : Int)))) (PO.mul rfl rfl) rfl ?_
 refine Pm v0 hs59_0 rfl ?_
 refine Pu (pt g21 0) (PO.fieldAddr fo94_0 hs59_4 rfl) rfl ?_
 refine Pu (.int .i64 a1.At) (PO.loadB 1 pl3 rfl rfl rfl) rfl ?_
 refine Pm (.int .i64 x61) hs59_11 rfl ?_
 refine Pu (.int .i64 (IntKind.i64.wrap (a1.At + x61))) (PO.add rfl rfl) rfl ?_
 obtain ⟨hg64, h⟩ := grd_i h
 obtain ⟨p65, cs66, hat67, hrc68, hhas69⟩ := h0.at hg64.1 hg64.2 (by decide)
 obtain rfl := hrc68
 refine Pu (.pointer (some p65)) (PO.indexAddr (n := a0.length) Tryd.underlying26 sz5 rfl rfl hg64.1 hg64.2 hat67) rfl ?_
 refine Pu (.int .u8 (rd a0 (IntKind.i64.wrap (a1.At + x61)))) (PO.loadM pl5 rfl (IM.has0 hhas69)) rfl ?_
 refine Pu (.int .u64 (IntKind.u64.wrap (rd a0 (IntKind.i64.wrap (a1.At + x61))))) (PO.conv us5 Tryd.underlying42 rfl) rfl ?_
 refine Pu (.int .u64 (IntKind.u64.wrap ((IntKind.u64.wrap (x60 * (256 : Int))) + (IntKind.u64.wrap (rd a0 (IntKind.i64.wrap (a1.At + x61))))))) (PO.add rfl rfl) rfl ?_
 refine Pa (.int .u64 (IntKind.u64.wrap ((IntKind.u64.wrap (x60 * (256 : Int))) + (IntKind.u64.wrap (rd a0 (IntKind.i64.wrap (a1.At + x61))))))) rfl rfl ?_
 refine WL.nil ?_
 refine WQ.blockN ?_
 refine WQ.thenC ?_
 refine WC.region ?_
 refine Pm (.int .i64 x61) hs59_11 rfl ?_
 refine Pu (.int .i64 (IntKind.i64.wrap (x61 + 1))) (PO.add rfl rfl) rfl ?_
 refine Pa (.int .i64 (IntKind.i64.wrap (x61 + 1))) rfl rfl ?_
 refine WL.nil ?_
 refine WQ.again (IntKind.u64.wrap ((IntKind.u64.wrap (x60 * (256 : Int))) + (IntKind.u64.wrap (rd a0 (IntKind.i64.wrap (a1.At + x61))))), IntKind.i64.wrap (x61 + 1)) (Option.some.inj h).symm ?_
 exact ⟨hle59, rfl, hs59_0, hs59_2, hs59_4, hs59_6, hs59_8, rfl, rfl⟩
 have h := ite_f hb63 h
 refine WC.exit ?_
 refine WQ.thenE ?_
 refine WQ.leaveE x60 (Option.some.inj h).symm (fun heq59 => ?_)
 subst heq59
 have h := hK59
 refine WQ.blockH ?_
 obtain rfl := Option.some.inj h
 refine WQ.thenJ ?_
 exact ⟨hle59, rfl, hs59_2, hs59_4, hs59_6, hs59_8, hs59_10⟩
 rintro ρ58 M58 H58 ⟨hle58, rfl, hs58_2, hs58_4, hs58_6, hs58_8, hs58_10⟩
 refine WC.seq ?_
 refine Sr ?_
 refine Pm (.int .u64 x57) hs58_10 rfl ?_
 obtain ⟨r71, hr72, h⟩ := bnd h
 refine WL.eff (EO.call0 co97 (f_ref02_size_ok x57 _ r71 hr72) (args1 rfl)) rfl ?_
 rintro _ M73 _ hle74 ⟨_, ⟨rfl, rfl⟩, rfl⟩
 refine WL.a0 ?_
 refine Pm (.int .i64 x30) hs58_8 rfl ?_
 refine Pu (.bool (decide (r71 ≠ x30))) (PO.neq rfl rfl) rfl ?_
 refine Nt ?_
 refine WC.cond (b := decide (r71 ≠ x30)) rfl (fun hb76 => ?_) (fun hb76 => ?_)
 have h := ite_t hb76 h
 refine Sr ?_
 refine Pu (a94_ a1) (PO.loadBA (cs := (l94 a1)) 1 ag94 sz94 hs58_4 rfl rfl) rfl ?_
 refine Pu (pt g21 0) (PO.fieldAddr fo94_0 hs58_4 rfl) rfl ?_
 refine Pu (.int .i64 a1.At) (PO.loadB 1 pl3 rfl rfl rfl) rfl ?_
 obtain ⟨r77, hr78, h⟩ := bnd h
 refine WL.eff (EO.call0 co71 (f_ref02_bad_ok a1 (⟨#[110, 117, 109]⟩ : ByteArray) a1.At (5 : Int) _ r77 hr78) (args4 rfl rfl rfl rfl)) rfl ?_
 rintro _ M79 _ hle80 ⟨_, ⟨rfl, rfl⟩, rfl⟩
 refine WL.a0 ?_
 refine WL.eff (EO.storeL (v := (a94_ r77)) (vl := (l94 r77)) (arr' := (l94 r77)) rfl sz94 hs58_6 rfl (onesOf (Ones.cons rfl (Ones.cons rfl (Ones.cons rfl (Ones.cons rfl Ones.nil))))) rfl rfl rfl) rfl ?_
 rintro _ _ _ - ⟨rfl, rfl⟩
 refine Pa (.int .u64 0) rfl rfl ?_
 refine Nt ?_
 refine WC.ret ?_
 refine WQ.thenR ?_
 refine WQ.f1 ?_
 refine WQ.drop ?_
 exact WQ.returnsD h [] (fun _ hs => hs.drop) (resultsLN rfl (RVs.cons (RV.cellA (cs := (l94 r77)) 0 ag94 sz94 hs58_6 rfl rfl) (RVs.cons (RV.tmp rfl) RVs.nil))) (((hle31.trans hle58).trans hle74).trans hle80) ⟨rfl, rfl⟩
 have h := ite_f hb76 h
 refine WC.skip ?_
 refine WQ.thenC ?_
 refine WC.seq ?_
 refine Sr ?_
 refine Pm (.int .u64 x57) hs58_10 rfl ?_
 refine Pm (.int .u64 a2) hs58_2 rfl ?_
 refine Pu (.bool (decide (a2 < x57))) (PO.gtr rfl rfl) rfl ?_
 refine Nt ?_
 refine WC.cond (b := decide (a2 < x57)) rfl (fun hb82 => ?_) (fun hb82 => ?_)
 have h := ite_t hb82 h
 refine Sr ?_
 refine Pu (a94_ a1) (PO.loadBA (cs := (l94 a1)) 1 ag94 sz94 hs58_4 rfl rfl) rfl ?_
 refine Pu (pt g21 0) (PO.fieldAddr fo94_0 hs58_4 rfl) rfl ?_
 refine Pu (.int .i64 a1.At) (PO.loadB 1 pl3 rfl rfl rfl) rfl ?_
 obtain ⟨r83, hr84, h⟩ := bnd h
 refine WL.eff (EO.call0 co71 (f_ref02_bad_ok a1 (⟨#[110, 117, 109]⟩ : ByteArray) a1.At (6 : Int) _ r83 hr84) (args4 rfl rfl rfl rfl)) rfl ?_
 rintro _ M85 _ hle86 ⟨_, ⟨rfl, rfl⟩, rfl⟩
 refine WL.a0 ?_
 refine WL.eff (EO.storeL (v := (a94_ r83)) (vl := (l94 r83)) (arr' := (l94 r83)) rfl sz94 hs58_6 rfl (onesOf (Ones.cons rfl (Ones.cons rfl (Ones.cons rfl (Ones.cons rfl Ones.nil))))) rfl rfl rfl) rfl ?_
 rintro _ _ _ - ⟨rfl, rfl⟩
 refine Pa (.int .u64 0) rfl rfl ?_
 refine Nt ?_
 refine WC.ret ?_
 refine WQ.thenR ?_
 refine WQ.f1 ?_
 refine WQ.drop ?_
 exact WQ.returnsD h [] (fun _ hs => hs.drop) (resultsLN rfl (RVs.cons (RV.cellA (cs := (l94 r83)) 0 ag94 sz94 hs58_6 rfl rfl) (RVs.cons (RV.tmp rfl) RVs.nil))) (((hle31.trans hle58).trans hle74).trans hle86) ⟨rfl, rfl⟩
 have h := ite_f hb82 h
 refine WC.skip ?_
 refine WQ.thenC ?_
 refine Sr ?_
 refine Pu (pt g21 0) (PO.fieldAddr fo94_0 hs58_4 rfl) rfl ?_
 refine Pu (.int .i64 a1.At) (PO.loadB 1 pl3 rfl rfl rfl) rfl ?_
 refine Pm (.int .i64 x30) hs58_8 rfl ?_
 refine Pu (.int .i64 (IntKind.i64.wrap (a1.At + x30))) (PO.add rfl rfl) rfl ?_
 refine Pu (.agg #[(.int .i64 (IntKind.i64.wrap (a1.At + x30))), (.int .i64 0), (.string ⟨#[]⟩), (.int .i64 0)]) (PO.buildL (cl := [(.int .i64 (IntKind.i64.wrap (a1.At + x30))), (.int .i64 0), (.string ⟨#[]⟩), (.int .i64 0)]) ze94 fp94 (Parts.cons (congrArg Value.cells (show ev _ _ = (.int .i64 (IntKind.i64.wrap (a1.At + x30))) from rfl)) Parts.nil) rfl) rfl ?_
 refine Pm (.int .u64 x57) hs58_10 rfl ?_
 refine WL.eff (EO.storeL (v := (.agg #[(.int .i64 (IntKind.i64.wrap (a1.At + x30))), (.int .i64 0), (.string ⟨#[]⟩), (.int .i64 0)])) (vl := [(.int .i64 (IntKind.i64.wrap (a1.At + x30))), (.int .i64 0), (.string ⟨#[]⟩), (.int .i64 0)]) (arr' := [(.int .i64 (IntKind.i64.wrap (a1.At + x30))), (.int .i64 0), (.string ⟨#[]⟩), (.int .i64 0)]) rfl sz94 hs58_6 rfl (onesOf (Ones.cons rfl (Ones.cons rfl (Ones.cons rfl (Ones.cons rfl Ones.nil))))) rfl rfl rfl) rfl ?_
 rintro _ _ _ - ⟨rfl, rfl⟩
 refine Pa (.int .u64 x57) rfl rfl ?_
 refine Nt ?_
 refine WC.ret ?_
 refine WQ.f1 ?_
 refine WQ.drop ?_
 exact WQ.returnsD h [] (fun _ hs => hs.drop) (resultsLN rfl (RVs.cons (RV.cellA (cs := [(.int .i64 (IntKind.i64.wrap (a1.At + x30))), (.int .i64 0), (.string ⟨#[]⟩), (.int .i64 0)]) 0 ag94 sz94 hs58_6 rfl rfl) (RVs.cons (RV.tmp rfl) RVs.nil))) ((hle31.trans hle58).trans hle74) ⟨rfl, rfl⟩


end Go.Proofs.YtjiffdgidodebaaDoor.G
