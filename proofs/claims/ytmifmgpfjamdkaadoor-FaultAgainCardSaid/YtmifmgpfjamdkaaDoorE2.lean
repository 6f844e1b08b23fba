/- Go functions: what they come to, and that they do. Printed by a program of the session (gen). -/
import Derived.Test.YtmifmgpfjamdkaaDoorEF
import Derived.Test.YtmifmgpfjamdkaaDoorE1
import Derived.Test.YtmifmgpfjamdkaaDoorKAny
set_option linter.unusedVariables false
set_option linter.unusedSimpArgs false
namespace Go.Proofs.YtmifmgpfjamdkaaDoor.G
open Go Go.KK

noncomputable def f_ref01_Texts_l0 (a0 : (List ByteArray)) (a1 : (List ByteArray)) (s_ : Int) : Option (Int ⊕ (Unit ⊕ Unit)) :=
  match s_ with
  | x24 =>
    (if (decide (x24 < (a0.length : Int))) = true then (grd (0 ≤ x24 ∧ x24 < a0.length) (grd (0 ≤ x24 ∧ x24 < a1.length) (if (!decide ((rd a0 x24) = (rd a1 x24))) = true then (some (Sum.inr (Sum.inr ()))) else (some (Sum.inl (IntKind.i64.wrap (x24 + (1 : Int)))))))) else (some (Sum.inr (Sum.inl ()))))
noncomputable def f_ref01_Texts (a0 : (List ByteArray)) (a1 : (List ByteArray)) : Option Bool :=
  (if (decide ((a0.length : Int) ≠ (a1.length : Int))) = true then (some false) else ((((iter (f_ref01_Texts_l0 a0 a1) (0 : Int)).bind (Sum.elim (fun _ => (some (Sum.inl ()))) (fun _ => (((some false)).bind fun r => some (Sum.inr r))))) : Option (Unit ⊕ Bool)).bind (Sum.elim (fun _ => (some true)) some)))
def f_ref01_Texts_post (a0 : (List ByteArray)) (a1 : (List ByteArray)) (v0 v1 : Value) : Bool → Value → IM → HL → Prop :=
  fun (r0 : Bool) (v : Value) (M' : IM) (H' : HL) => (.bool r0) = v ∧ H' = []
set_option maxHeartbeats 8000000 in
set_option maxRecDepth 100000 in
theorem f_ref01_Texts_ok (a0 : (List ByteArray)) (a1 : (List ByteArray)) (M : IM) (v0 v1 : Value) (h0 : RS Kd.str M v0 a0) (h1 : RS Kd.str M v1 a1) (res : Bool) (h : f_ref01_Texts a0 a1 = some res) :
    Tri Tryd.prog 13 #[v0, v1] M [] (f_ref01_Texts_post a0 a1 v0 v1 res) := by
 unfold f_ref01_Texts at h
 refine Tri.enter (fn := Tryd.f13) Tryd.func13 rfl (Nat.le_of_ble_eq_true rfl) ?_
 intro F ρ hρ
 refine Sr ?_
 refine Pa (.bool false) rfl rfl ?_
 refine Nt ?_
 refine WC.seq ?_
 refine Sr ?_
 refine Pm v0 (hρ 0) rfl ?_
 refine Pu (.int .i64 (a0.length : Int)) (PO.lenS Tryd.underlying33 rfl h0.len) rfl ?_
 refine Pm v1 (hρ 1) rfl ?_
 refine Pu (.int .i64 (a1.length : Int)) (PO.lenS Tryd.underlying33 rfl h1.len) rfl ?_
 refine Pu (.bool (decide ((a0.length : Int) ≠ (a1.length : Int)))) (PO.neq rfl rfl) rfl ?_
 refine Nt ?_
 refine WC.cond (b := decide ((a0.length : Int) ≠ (a1.length : Int))) rfl (fun hb21 => ?_) (fun hb21 => ?_)
 have h := ite_t hb21 h
 refine Sr ?_
 refine Pa (.bool false) rfl rfl ?_
 refine Nt ?_
 refine WC.ret ?_
 refine WQ.thenR ?_
 exact WQ.returnsF h [] rfl (results1 rfl rfl) (IM.le.refl _) ⟨rfl, rfl⟩
 have h := ite_f hb21 h
 refine WC.skip ?_
 refine WQ.thenC ?_
 obtain ⟨j22, hj22, h⟩ := bnd h
 refine WC.joinE (fun (_ : Unit) ρ' M' H' => M.le M' ∧ F = H') j22 ?_ ?_
 have h322 := h
 have h := hj22
 refine Sr ?_
 refine Pa (.int .i64 (0 : Int)) rfl rfl ?_
 refine Nt ?_
 refine WC.block ?_
 obtain ⟨e23, he23, hK23⟩ := bnd h
 clear h
 refine WC.loop he23 (fun (x24 : Int) ρ' M' H' => M.le M' ∧ F = H' ∧ ρ' 0 = v0 ∧ ρ' 1 = v1 ∧ ρ' 5 = (.int .i64 x24)) ?_ ?_
 exact ⟨(IM.le.refl _), rfl, (hρ 0), (hρ 1), rfl⟩
 rintro x24 o23 ρ23 M23 H23 h ⟨hle23, rfl, hs23_0, hs23_1, hs23_5⟩
 unfold f_ref01_Texts_l0 at h
 have h0 := h0.mono hle23
 have h1 := h1.mono hle23
 refine WC.seq ?_
 refine Sr ?_
 refine Pm (.int .i64 x24) hs23_5 rfl ?_
 refine Pm v0 hs23_0 rfl ?_
 refine Pu (.int .i64 (a0.length : Int)) (PO.lenS Tryd.underlying33 rfl h0.len) rfl ?_
 refine Pu (.bool (decide (x24 < (a0.length : Int)))) (PO.lss rfl rfl) rfl ?_
 refine Nt ?_
 refine WC.cond (b := decide (x24 < (a0.length : Int))) rfl (fun hb25 => ?_) (fun hb25 => ?_)
 have h := ite_t hb25 h
 refine WC.skip ?_
 refine WQ.thenC ?_
 refine WC.seq ?_
 refine WC.block ?_
 refine WC.seq ?_
 refine WC.draw [0, 0, 3, 7, 0, 0, 48, 112, 255] (.pure 0 (.pure 1 (.pure 2 (.pure 3 (.pure 4 (.pure 5 (.pure 6 (.pure 7 (.pure 8 .done))))))))) mixed (by kernel_rfl) ?_
 refine Tp v0 rfl (PO.move hs23_0) rfl ?_
 refine Tp (.int .i64 x24) rfl (PO.move hs23_5) rfl ?_
 obtain ⟨hg26, h⟩ := grd_i h
 obtain ⟨p27, cs28, hat29, hrc30, hhas31⟩ := h0.at hg26.1 hg26.2 (by decide)
 obtain rfl := hrc30
 refine Tp (.pointer (some p27)) rfl (PO.indexAddr (n := a0.length) Tryd.underlying33 sz9 rfl rfl hg26.1 hg26.2 hat29) rfl ?_
 refine Tp (.string (rd a0 x24)) rfl (PO.loadM pl9 rfl (IM.has0 hhas31)) rfl ?_
 refine Tp v1 rfl (PO.move hs23_1) rfl ?_
 refine Tp (.int .i64 x24) rfl (PO.move hs23_5) rfl ?_
 obtain ⟨hg33, h⟩ := grd_i h
 obtain ⟨p34, cs35, hat36, hrc37, hhas38⟩ := h1.at hg33.1 hg33.2 (by decide)
 obtain rfl := hrc37
 refine Tp (.pointer (some p34)) rfl (PO.indexAddr (n := a1.length) Tryd.underlying33 sz9 rfl rfl hg33.1 hg33.2 hat36) rfl ?_
 refine Tp (.string (rd a1 x24)) rfl (PO.loadM pl9 rfl (IM.has0 hhas38)) rfl ?_
 refine Tp (.bool (!decide ((rd a0 x24) = (rd a1 x24)))) rfl (PO.sneq rfl rfl) rfl ?_
 refine WT.fin ?_
 refine WQ.thenC ?_
 refine WC.cond (b := !decide ((rd a0 x24) = (rd a1 x24))) rfl (fun hb40 => ?_) (fun hb40 => ?_)
 have h := ite_t hb40 h
 refine Sr ?_
 refine Pa (.bool false) rfl rfl ?_
 refine Nt ?_
 refine WC.ret ?_
 refine WQ.blockR ?_
 refine WQ.thenR ?_
 refine WQ.leaveR (Sum.inr ()) (Option.some.inj h).symm (fun heq23 => ?_)
 subst heq23
 have h := (elimR hK23)
 refine WQ.blockR ?_
 refine WQ.thenR ?_
 have h := KK.early h h322
 exact WQ.returnsF h [] rfl (results1 rfl rfl) hle23 ⟨rfl, rfl⟩
 have h := ite_f hb40 h
 refine WC.skip ?_
 refine WQ.blockN ?_
 refine WQ.thenC ?_
 refine WC.region ?_
 refine Pm (.int .i64 x24) hs23_5 rfl ?_
 refine Pu (.int .i64 (IntKind.i64.wrap (x24 + (1 : Int)))) (PO.add rfl rfl) rfl ?_
 refine Pa (.int .i64 (IntKind.i64.wrap (x24 + (1 : Int)))) rfl rfl ?_
 refine WL.nil ?_
 refine WQ.again (IntKind.i64.wrap (x24 + (1 : Int))) (Option.some.inj h).symm ?_
 exact ⟨hle23, rfl, hs23_0, hs23_1, rfl⟩
 have h := ite_f hb25 h
 refine WC.exit ?_
 refine WQ.thenE ?_
 refine WQ.leaveE (Sum.inl ()) (Option.some.inj h).symm (fun heq23 => ?_)
 subst heq23
 have h := elimL hK23
 refine WQ.blockH ?_
 refine WQ.thenFE h ?_
 exact ⟨hle23, rfl⟩
 rintro _ ρ22 M22 H22 rfl ⟨hle22, rfl⟩
 refine Sr ?_
 refine Pa (.bool true) rfl rfl ?_
 refine Nt ?_
 refine WC.ret ?_
 exact WQ.returnsF h [] rfl (results1 rfl rfl) hle22 ⟨rfl, rfl⟩

noncomputable def f_ref01_Where (a0 : T_ref01_Chain) : Option (Int × Bool) :=
  (((if (decide ((a0.Steps.length : Int) = (0 : Int))) = true then (some true) else (some (decide (a0.Code = (0 : Int))))) : Option Bool).bind fun (x22 : Bool) => (if x22 = true then (some ((0 : Int), false)) else (grd (0 ≤ (0 : Int) ∧ (0 : Int) < a0.Steps.length) (some ((rd a0.Steps (0 : Int)).At, true)))))
def f_ref01_Where_post (a0 : T_ref01_Chain) (v0_0 : Value) : (Int × Bool) → Value → IM → HL → Prop :=
  fun (p_ : (Int × Bool)) (v : Value) (M' : IM) (H' : HL) => match p_ with | (r0, r1) => (.tuple #[(.int .i64 r0), (.bool r1)]) = v ∧ H' = []
set_option maxHeartbeats 8000000 in
set_option maxRecDepth 100000 in
theorem f_ref01_Where_ok (a0 : T_ref01_Chain) (M : IM) (v0_0 : Value) (h0_0 : RS kd_ref01_Step M v0_0 a0.Steps) (res : (Int × Bool)) (h : f_ref01_Where a0 = some res) :
    Tri Tryd.prog 34 #[(.agg #[v0_0, (.int .i64 a0.Code)])] M [] (f_ref01_Where_post a0 v0_0 res) := by
 unfold f_ref01_Where at h
 refine Tri.enter (fn := Tryd.f34) Tryd.func34 rfl (Nat.le_of_ble_eq_true rfl) ?_
 intro F ρ hρ
 refine Sr ?_
 refine WL.eff (EO.box (cs := #[v0_0, (.int .i64 a0.Code)]) (congrArg Value.cells (asE (.agg #[v0_0, (.int .i64 a0.Code)]) (hρ 0)))) rfl ?_
 rintro _ _ _ - ⟨rfl, g21, rfl, rfl⟩
 refine Pa (.int .i64 (0 : Int)) rfl rfl ?_
 refine Pa (.bool false) rfl rfl ?_
 refine Nt ?_
 refine WC.seq ?_
 obtain ⟨x22, hj23, h⟩ := bnd h
 refine WC.joinF (fun (x22 : Bool) ρ' M' H' => M.le M' ∧ [(g21, .cells #[v0_0, (.int .i64 a0.Code)] 24 (0, 0))] :: F = H' ∧ ρ' 1 = (.pointer (some ⟨g21, 0, none⟩)) ∧ ρ' 12 = (.bool x22)) x22 ?_ ?_
 have h323 := h
 have h := hj23
 refine WC.region ?_
 refine Pu (.pointer (some ⟨g21, 0, none⟩)) (PO.fieldAddr fo24_0 rfl rfl) rfl ?_
 refine Pu v0_0 (PO.loadB 0 pl22 rfl rfl rfl) rfl ?_
 refine Pu (.int .i64 (a0.Steps.length : Int)) (PO.lenS Tryd.underlying22 rfl h0_0.len) rfl ?_
 refine Pu (.bool (decide ((a0.Steps.length : Int) = (0 : Int)))) (PO.eql rfl rfl) rfl ?_
 refine Pm (.bool (decide ((a0.Steps.length : Int) = (0 : Int)))) rfl rfl ?_
 rcases Bool.eq_false_or_eq_true (decide ((a0.Steps.length : Int) = (0 : Int))) with hb24 | hb24
 have h := ite_t hb24 h
 iterate 3 refine Of 8 rfl rfl hb24 rfl ?_
 refine Pu (.bool true) (PO.pickT rfl hb24 rfl) rfl ?_
 refine WL.nil ?_
 obtain rfl := Option.some.inj h
 refine WQ.thenJ ?_
 exact ⟨(IM.le.refl _), rfl, rfl, rfl⟩
 have h := ite_f hb24 h
 refine On 8 rfl rfl hb24 ?_
 refine Pu (.pointer (some ⟨g21, 1, none⟩)) (PO.fieldAddr fo24_1 rfl rfl) rfl ?_
 refine On 8 rfl rfl hb24 ?_
 refine Pu (.int .i64 a0.Code) (PO.loadB 0 pl3 rfl rfl rfl) rfl ?_
 refine On 8 rfl rfl hb24 ?_
 refine Pu (.bool (decide (a0.Code = (0 : Int)))) (PO.eql rfl rfl) rfl ?_
 refine Pu (.bool (decide (a0.Code = (0 : Int)))) (PO.pickF rfl hb24 rfl) rfl ?_
 refine WL.nil ?_
 obtain rfl := Option.some.inj h
 refine WQ.thenJ ?_
 exact ⟨(IM.le.refl _), rfl, rfl, rfl⟩
 rintro ρ23 M23 H23 ⟨hle23, rfl, hs23_1, hs23_12⟩
 have h0_0 := h0_0.mono hle23
 refine WC.cond (b := x22) hs23_12 (fun hb25 => ?_) (fun hb25 => ?_)
 have h := ite_t hb25 h
 refine Sr ?_
 refine Pa (.int .i64 (0 : Int)) rfl rfl ?_
 refine Pa (.bool false) rfl rfl ?_
 refine Nt ?_
 refine WC.ret ?_
 refine WQ.thenR ?_
 refine WQ.drop ?_
 exact WQ.returnsF h [] rfl (results2 rfl rfl rfl) hle23 ⟨rfl, rfl⟩
 have h := ite_f hb25 h
 refine WC.skip ?_
 refine WQ.thenC ?_
 refine Sr ?_
 refine Pu (.pointer (some ⟨g21, 0, none⟩)) (PO.fieldAddr fo24_0 hs23_1 rfl) rfl ?_
 refine Pu v0_0 (PO.loadB 0 pl22 rfl rfl rfl) rfl ?_
 obtain ⟨hg26, h⟩ := grd_i h
 obtain ⟨p27, cs28, hat29, hrc30, hhas31⟩ := h0_0.at hg26.1 hg26.2 (by decide)
 obtain rfl := kd_ref01_Step_open hrc30
 refine Pu (.pointer (some p27)) (PO.indexAddr (n := a0.Steps.length) Tryd.underlying22 sz63 rfl rfl hg26.1 hg26.2 hat29) rfl ?_
 refine Pu (.pointer (some (p27.add 1))) (PO.fieldAddr fo63_1 rfl rfl) rfl ?_
 refine Pu (.int .i64 ((rd a0.Steps (0 : Int)).At)) (PO.loadM pl3 rfl (hhas31 1 _ rfl)) rfl ?_
 refine Pa (.int .i64 ((rd a0.Steps (0 : Int)).At)) rfl rfl ?_
 refine Pa (.bool true) rfl rfl ?_
 refine Nt ?_
 refine WC.ret ?_
 refine WQ.drop ?_
 exact WQ.returnsF h [] rfl (results2 rfl rfl rfl) hle23 ⟨rfl, rfl⟩

noncomputable def f_ref01_Of (a0 : T_ref01_Chain) : Option Int :=
  (if (decide (a0.Code < (0 : Int))) = true then (some (21 : Int)) else (some a0.Code))
def f_ref01_Of_post (a0 : T_ref01_Chain) (v0_0 : Value) : Int → Value → IM → HL → Prop :=
  fun (r0 : Int) (v : Value) (M' : IM) (H' : HL) => (.int .i64 r0) = v ∧ H' = []
set_option maxHeartbeats 8000000 in
set_option maxRecDepth 100000 in
theorem f_ref01_Of_ok (a0 : T_ref01_Chain) (M : IM) (v0_0 : Value) (h0_0 : RS kd_ref01_Step M v0_0 a0.Steps) (res : Int) (h : f_ref01_Of a0 = some res) :
    Tri Tryd.prog 35 #[(.agg #[v0_0, (.int .i64 a0.Code)])] M [] (f_ref01_Of_post a0 v0_0 res) := by
 unfold f_ref01_Of at h
 refine Tri.enter (fn := Tryd.f35) Tryd.func35 rfl (Nat.le_of_ble_eq_true rfl) ?_
 intro F ρ hρ
 refine Sr ?_
 refine WL.eff (EO.box (cs := #[v0_0, (.int .i64 a0.Code)]) (congrArg Value.cells (asE (.agg #[v0_0, (.int .i64 a0.Code)]) (hρ 0)))) rfl ?_
 rintro _ _ _ - ⟨rfl, g21, rfl, rfl⟩
 refine Pa (.int .i64 (0 : Int)) rfl rfl ?_
 refine Nt ?_
 refine WC.seq ?_
 refine Sr ?_
 refine Pu (.pointer (some ⟨g21, 1, none⟩)) (PO.fieldAddr fo24_1 rfl rfl) rfl ?_
 refine Pu (.int .i64 a0.Code) (PO.loadB 0 pl3 rfl rfl rfl) rfl ?_
 refine Pu (.bool (decide (a0.Code < (0 : Int)))) (PO.lss rfl rfl) rfl ?_
 refine Nt ?_
 refine WC.cond (b := decide (a0.Code < (0 : Int))) rfl (fun hb22 => ?_) (fun hb22 => ?_)
 have h := ite_t hb22 h
 refine Sr ?_
 refine Pa (.int .i64 (21 : Int)) rfl rfl ?_
 refine Nt ?_
 refine WC.ret ?_
 refine WQ.thenR ?_
 refine WQ.drop ?_
 exact WQ.returnsF h [] rfl (results1 rfl rfl) (IM.le.refl _) ⟨rfl, rfl⟩
 have h := ite_f hb22 h
 refine WC.skip ?_
 refine WQ.thenC ?_
 refine Sr ?_
 refine Pu (.pointer (some ⟨g21, 1, none⟩)) (PO.fieldAddr fo24_1 rfl rfl) rfl ?_
 refine Pu (.int .i64 a0.Code) (PO.loadB 0 pl3 rfl rfl rfl) rfl ?_
 refine Pa (.int .i64 a0.Code) rfl rfl ?_
 refine Nt ?_
 refine WC.ret ?_
 refine WQ.drop ?_
 exact WQ.returnsF h [] rfl (results1 rfl rfl) (IM.le.refl _) ⟨rfl, rfl⟩

noncomputable def f_ref01_Path_l0 (a0 : T_ref01_Chain) (s_ : ((List ByteArray) × Int)) : Option (((List ByteArray) × Int) ⊕ (List ByteArray)) :=
  match s_ with
  | (x25, x26) =>
    (((if (decide (x26 < (a0.Steps.length : Int))) = true then (some (decide (a0.Code ≠ (0 : Int)))) else (some false)) : Option Bool).bind fun (x28 : Bool) => (if x28 = true then (grd (0 ≤ x26 ∧ x26 < a0.Steps.length) (grd (x25.length + [(rd a0.Steps x26).Op].length ≤ 274877906944) (some (Sum.inl (x25 ++ [(rd a0.Steps x26).Op], IntKind.i64.wrap (x26 + (1 : Int))))))) else (some (Sum.inr x25))))
noncomputable def f_ref01_Path (a0 : T_ref01_Chain) : Option (List ByteArray) :=
  ((((iter (f_ref01_Path_l0 a0) ([], (0 : Int))).bind (fun (x27 : (List ByteArray)) => (some x27))) : Option (List ByteArray)).bind fun (x22 : (List ByteArray)) => (some x22))
def f_ref01_Path_post (a0 : T_ref01_Chain) (v0_0 : Value) : (List ByteArray) → Value → IM → HL → Prop :=
  fun (r0 : (List ByteArray)) (v : Value) (M' : IM) (H' : HL) => ∃ vz0 cz0, vz0 = v ∧ H' = [cz0] ∧ OwnS Kd.str M' vz0 r0 cz0
set_option maxHeartbeats 8000000 in
set_option maxRecDepth 100000 in
theorem f_ref01_Path_ok (a0 : T_ref01_Chain) (M : IM) (v0_0 : Value) (h0_0 : RS kd_ref01_Step M v0_0 a0.Steps) (res : (List ByteArray)) (h : f_ref01_Path a0 = some res) :
    Tri Tryd.prog 36 #[(.agg #[v0_0, (.int .i64 a0.Code)])] M [] (f_ref01_Path_post a0 v0_0 res) := by
 unfold f_ref01_Path at h
 refine Tri.enter (fn := Tryd.f36) Tryd.func36 rfl (Nat.le_of_ble_eq_true rfl) ?_
 intro F ρ hρ
 refine Sr ?_
 refine WL.eff (EO.box (cs := #[v0_0, (.int .i64 a0.Code)]) (congrArg Value.cells (asE (.agg #[v0_0, (.int .i64 a0.Code)]) (hρ 0)))) rfl ?_
 rintro _ _ _ - ⟨rfl, g21, rfl, rfl⟩
 refine Pa (.slice none 0 0) rfl rfl ?_
 refine Ns ?_
 refine Pa (.slice none 0 0) rfl rfl ?_
 refine Nt ?_
 obtain ⟨x22, hj23, h⟩ := bnd h
 refine WC.joinF (fun (x22 : (List ByteArray)) ρ' M' H' => ∃ vx22 cx22, M.le M' ∧ [(g21, .cells #[v0_0, (.int .i64 a0.Code)] 24 (0, 0))] :: cx22 :: F = H' ∧ ρ' 3 = vx22 ∧ OwnS Kd.str M' vx22 x22 cx22) x22 ?_ ?_
 have h323 := h
 have h := hj23
 refine Sr ?_
 refine Pa (.int .i64 (0 : Int)) rfl rfl ?_
 refine Nt ?_
 refine WC.block ?_
 refine WC.e0 ?_
 refine WC.f1 ?_
 obtain ⟨e24, he24, hK24⟩ := bnd h
 clear h
 refine WC.loop he24 (fun (p_ : ((List ByteArray) × Int)) ρ' M' H' => match p_ with | (x25, x26) => ∃ vx25 cx25, M.le M' ∧ [(g21, .cells #[v0_0, (.int .i64 a0.Code)] 24 (0, 0))] :: cx25 :: F = H' ∧ ρ' 1 = (.pointer (some ⟨g21, 0, none⟩)) ∧ ρ' 3 = vx25 ∧ ρ' 4 = (.int .i64 x26) ∧ OwnS Kd.str M' vx25 x25 cx25) ?_ ?_
 exact ⟨(.slice none 0 0), [], (IM.le.refl _), rfl, rfl, rfl, rfl, (OwnS.nil _ _)⟩
 rintro ⟨x25, x26⟩ o24 ρ24 M24 H24 h ⟨vx25, cx25, hle24, rfl, hs24_1, hs24_3, hs24_4, hx25⟩
 unfold f_ref01_Path_l0 at h
 have h0_0 := h0_0.mono hle24
 refine WC.seq ?_
 obtain ⟨x28, hj29, h⟩ := bnd h
 refine WC.joinF (fun (x28 : Bool) ρ' M' H' => M24.le M' ∧ [(g21, .cells #[v0_0, (.int .i64 a0.Code)] 24 (0, 0))] :: cx25 :: F = H' ∧ ρ' 1 = (.pointer (some ⟨g21, 0, none⟩)) ∧ ρ' 3 = vx25 ∧ ρ' 4 = (.int .i64 x26) ∧ ρ' 14 = (.bool x28)) x28 ?_ ?_
 have h329 := h
 have h := hj29
 refine WC.region ?_
 refine Pm (.int .i64 x26) hs24_4 rfl ?_
 refine Pu (.pointer (some ⟨g21, 0, none⟩)) (PO.fieldAddr fo24_0 hs24_1 rfl) rfl ?_
 refine Pu v0_0 (PO.loadB 0 pl22 rfl rfl rfl) rfl ?_
 refine Pu (.int .i64 (a0.Steps.length : Int)) (PO.lenS Tryd.underlying22 rfl h0_0.len) rfl ?_
 refine Pu (.bool (decide (x26 < (a0.Steps.length : Int)))) (PO.lss rfl rfl) rfl ?_
 refine Pm (.bool (decide (x26 < (a0.Steps.length : Int)))) rfl rfl ?_
 rcases Bool.eq_false_or_eq_true (decide (x26 < (a0.Steps.length : Int))) with hb30 | hb30
 have h := ite_t hb30 h
 refine On 10 rfl rfl hb30 ?_
 refine Pu (.pointer (some ⟨g21, 1, none⟩)) (PO.fieldAddr fo24_1 hs24_1 rfl) rfl ?_
 refine On 10 rfl rfl hb30 ?_
 refine Pu (.int .i64 a0.Code) (PO.loadB 0 pl3 rfl rfl rfl) rfl ?_
 refine On 10 rfl rfl hb30 ?_
 refine Pu (.bool (decide (a0.Code ≠ (0 : Int)))) (PO.neq rfl rfl) rfl ?_
 refine Pu (.bool (decide (a0.Code ≠ (0 : Int)))) (PO.pickT rfl hb30 rfl) rfl ?_
 refine WL.nil ?_
 obtain rfl := Option.some.inj h
 refine WQ.thenJ ?_
 exact ⟨(IM.le.refl _), rfl, hs24_1, hs24_3, hs24_4, rfl⟩
 have h := ite_f hb30 h
 iterate 3 refine Of 10 rfl rfl hb30 rfl ?_
 refine Pu (.bool false) (PO.pickF rfl hb30 rfl) rfl ?_
 refine WL.nil ?_
 obtain rfl := Option.some.inj h
 refine WQ.thenJ ?_
 exact ⟨(IM.le.refl _), rfl, hs24_1, hs24_3, hs24_4, rfl⟩
 rintro ρ29 M29 H29 ⟨hle29, rfl, hs29_1, hs29_3, hs29_4, hs29_14⟩
 have hx25 := hx25.mono hle29
 have h0_0 := h0_0.mono hle29
 refine WC.cond (b := x28) hs29_14 (fun hb31 => ?_) (fun hb31 => ?_)
 have h := ite_t hb31 h
 refine WC.skip ?_
 refine WQ.thenC ?_
 refine WC.seq ?_
 refine WC.block ?_
 refine WC.region ?_
 refine Pm vx25 hs29_3 rfl ?_
 refine Pu (.pointer (some ⟨g21, 0, none⟩)) (PO.fieldAddr fo24_0 hs29_1 rfl) rfl ?_
 refine Pu v0_0 (PO.loadB 0 pl22 rfl rfl rfl) rfl ?_
 refine Pm (.int .i64 x26) hs29_4 rfl ?_
 obtain ⟨hg32, h⟩ := grd_i h
 obtain ⟨p33, cs34, hat35, hrc36, hhas37⟩ := h0_0.at hg32.1 hg32.2 (by decide)
 obtain rfl := kd_ref01_Step_open hrc36
 refine Pu (.pointer (some p33)) (PO.indexAddr (n := a0.Steps.length) Tryd.underlying22 sz63 rfl rfl hg32.1 hg32.2 hat35) rfl ?_
 refine Pu (.pointer (some (p33.add 0))) (PO.fieldAddr fo63_0 rfl rfl) rfl ?_
 refine Pu (.string ((rd a0.Steps x26).Op)) (PO.loadM pl9 rfl (IM.has0 hhas37)) rfl ?_
 refine WL.eff (EO.buildSliceL (cl := [(.string ((rd a0.Steps x26).Op))]) Tryd.underlying33 iz9 rfl (Parts.cons (congrArg Value.cells (show ev _ _ = (.string ((rd a0.Steps x26).Op)) from rfl)) Parts.nil) rfl) rfl ?_
 rintro _ _ _ - ⟨rfl, g39, rfl, rfl⟩
 have h41 : OwnS Kd.str M29 (.slice (some ⟨g39, 0, none⟩) 1 1) [(rd a0.Steps x26).Op] [(g39, .cells #[(.string ((rd a0.Steps x26).Op))] 9 (0, 0))] := OwnS.rows (css := [[(.string ((rd a0.Steps x26).Op))]]) (Rows.cons rfl Rows.nil) rfl rfl
 obtain ⟨hg45, h⟩ := grd_i h
 refine WL.f2 ?_
 refine WL.eff (EO.append (dd := Kd.str) (xs := x25) (ys := [(rd a0.Steps x26).Op]) Tryd.underlying33 Tryd.underlying33 in9 rfl (appB (by decide) hg45) (by decide) rfl rfl hx25 (h41.src 1 rfl)) rfl ?_
 rintro v44 _ _ - ⟨rfl, c42, rfl, h43⟩
 refine Pa v44 rfl rfl ?_
 refine WL.nil ?_
 refine WQ.blockN ?_
 refine WQ.thenC ?_
 refine WC.region ?_
 refine Pm (.int .i64 x26) hs29_4 rfl ?_
 refine Pu (.int .i64 (IntKind.i64.wrap (x26 + (1 : Int)))) (PO.add rfl rfl) rfl ?_
 refine Pa (.int .i64 (IntKind.i64.wrap (x26 + (1 : Int)))) rfl rfl ?_
 refine WL.nil ?_
 refine WQ.f1 ?_
 refine WQ.drop ?_
 refine WQ.f1 ?_
 refine WQ.again (x25 ++ [(rd a0.Steps x26).Op], IntKind.i64.wrap (x26 + (1 : Int))) (Option.some.inj h).symm ?_
 exact ⟨v44, c42, (hle24.trans hle29), rfl, hs29_1, rfl, rfl, h43⟩
 have h := ite_f hb31 h
 refine WC.exit ?_
 refine WQ.thenE ?_
 refine WQ.leaveE x25 (Option.some.inj h).symm (fun heq24 => ?_)
 subst heq24
 have h := hK24
 refine WQ.blockH ?_
 obtain rfl := Option.some.inj h
 refine WQ.thenJ ?_
 exact ⟨vx25, cx25, (hle24.trans hle29), rfl, hs29_3, hx25⟩
 rintro ρ23 M23 H23 ⟨vx22, cx22, hle23, rfl, hs23_3, hx22⟩
 have h0_0 := h0_0.mono hle23
 refine Sr ?_
 refine Pm vx22 hs23_3 rfl ?_
 refine Pa vx22 rfl rfl ?_
 refine Nt ?_
 refine WC.ret ?_
 refine WQ.drop ?_
 exact WQ.returnsF h [cx22] rfl (results1 rfl rfl) hle23 ⟨vx22, cx22, rfl, rfl, hx22⟩

noncomputable def f_law01_same (a0 : GErr) (a1 : T_ref01_Chain) : Option Bool :=
  ((f_fault_Where a0).bind fun (r22, r23) => ((f_ref01_Where a1).bind fun (r29, r30) => ((((f_fault_Of a0).bind fun (r38 : Int) => ((f_ref01_Of a1).bind fun (r43 : Int) => (if (decide (r38 = r43)) = true then (if (decide (r22 = r29)) = true then (if (r23 == r30) = true then ((f_fault_Path a0).bind fun (r51 : (List ByteArray)) => ((f_ref01_Path a1).bind fun (r56 : (List ByteArray)) => ((f_ref01_Texts r51 r56).bind fun (r61 : Bool) => (if r61 = true then (some (a0.isNil == (decide (a1.Code = (0 : Int))))) else (some false))))) else (some false)) else (some false)) else (some false)))) : Option Bool).bind fun (x36 : Bool) => (some x36))))
def f_law01_same_post (a0 : GErr) (a1 : T_ref01_Chain) (v1_0 : Value) : Bool → Value → IM → HL → Prop :=
  fun (r0 : Bool) (v : Value) (M' : IM) (H' : HL) => (.bool r0) = v ∧ H' = []
set_option maxHeartbeats 8000000 in
set_option maxRecDepth 100000 in
theorem f_law01_same_ok (a0 : GErr) (a1 : T_ref01_Chain) (M : IM) (v1_0 : Value) (h1_0 : RS kd_ref01_Step M v1_0 a1.Steps) (hE : Env M) (res : Bool) (h : f_law01_same a0 a1 = some res) :
    Tri Tryd.prog 14 #[(GV a0), (.agg #[v1_0, (.int .i64 a1.Code)])] M [] (f_law01_same_post a0 a1 v1_0 res) := by
 unfold f_law01_same at h
 refine Tri.enter (fn := Tryd.f14) Tryd.func14 rfl (Nat.le_of_ble_eq_true rfl) ?_
 intro F ρ hρ
 refine Sr ?_
 refine WL.eff (EO.box (cs := #[v1_0, (.int .i64 a1.Code)]) (congrArg Value.cells (asE (.agg #[v1_0, (.int .i64 a1.Code)]) (hρ 1)))) rfl ?_
 rintro _ _ _ - ⟨rfl, g21, rfl, rfl⟩
 refine Pa (.bool false) rfl rfl ?_
 refine Ns ?_
 refine Pm (GV a0) (hρ 0) rfl ?_
 obtain ⟨⟨r22, r23⟩, hr24, h⟩ := bnd h
 refine WL.eff (EO.call0 co10 (f_fault_Where_ok a0 _ hE (r22, r23) hr24) (args1 rfl)) rfl ?_
 rintro _ M25 _ hle26 ⟨_, ⟨rfl, rfl⟩, rfl⟩
 have h1_0 := h1_0.mono hle26
 have hE := hE.mono hle26
 refine WL.a0 ?_
 refine Pm (.tuple #[(.int .i64 r22), (.bool r23)]) rfl rfl ?_
 refine Pu (.int .i64 r22) (PO.extract rfl rfl) rfl ?_
 refine Pu (.bool r23) (PO.extract rfl rfl) rfl ?_
 refine Pa (.int .i64 r22) rfl rfl ?_
 refine Pa (.bool r23) rfl rfl ?_
 refine Ns ?_
 refine Pu (.agg #[v1_0, (.int .i64 a1.Code)]) (PO.loadBA (cs := [v1_0, (.int .i64 a1.Code)]) 0 ag24 sz24 rfl rfl rfl) rfl ?_
 obtain ⟨⟨r29, r30⟩, hr31, h⟩ := bnd h
 refine WL.eff (EO.call0 co34 (f_ref01_Where_ok a1 _ _ h1_0 (r29, r30) hr31) (args1 rfl)) rfl ?_
 rintro _ M32 _ hle33 ⟨_, ⟨rfl, rfl⟩, rfl⟩
 have h1_0 := h1_0.mono hle33
 have hE := hE.mono hle33
 refine WL.a0 ?_
 refine Pm (.tuple #[(.int .i64 r29), (.bool r30)]) rfl rfl ?_
 refine Pu (.int .i64 r29) (PO.extract rfl rfl) rfl ?_
 refine Pu (.bool r30) (PO.extract rfl rfl) rfl ?_
 refine Pa (.int .i64 r29) rfl rfl ?_
 refine Pa (.bool r30) rfl rfl ?_
 refine Nt ?_
 obtain ⟨x36, hj37, h⟩ := bnd h
 refine WC.joinF (fun (x36 : Bool) ρ' M' H' => M32.le M' ∧ [(g21, .cells #[v1_0, (.int .i64 a1.Code)] 24 (0, 0))] :: F = H' ∧ ρ' 4 = (.bool x36)) x36 ?_ ?_
 have h337 := h
 have h := hj37
 refine WC.draw [0, 1, 0, 7, 15, 31, 63, 63, 255, 511, 1023, 2047, 2047, 8191, 16383, 32767, 65535, 131071, 65535, 524287, 1048575, 2097151, 4194303, 8388607, 16777215, 8388607, 41943039, 109051903, 268435455, 536870911, 1073741823] (.pure 0 (.pure 2 (.alt 1 (.alt 3 (.pure 4 (.pure 5 (.pure 6 (.pure 7 (.pure 8 (.pure 9 (.pure 10 (.pure 11 (.pure 12 (.pure 13 (.pure 14 (.pure 15 (.pure 16 (.pure 18 (.alt 17 (.alt 19 (.alt 20 (.pure 21 (.pure 22 (.pure 23 (.pure 24 (.pure 25 (.pure 26 (.pure 27 (.pure 28 (.pure 29 (.pure 30 .done)))))))))) .none) .none) .none))))))))))))))) .none) .none))) mixed (by kernel_rfl) ?_
 refine Tp (GV a0) rfl (PO.move (hρ 0)) rfl ?_
 refine Tp (.agg #[v1_0, (.int .i64 a1.Code)]) rfl (PO.loadBA (cs := [v1_0, (.int .i64 a1.Code)]) 0 ag24 sz24 rfl rfl rfl) rfl ?_
 obtain ⟨r38, hr39, h⟩ := bnd h
 refine WT.alt rfl (EO.call0 co12 (f_fault_Of_ok a0 _ hE r38 hr39) (args1 rfl)) rfl ?_ ?_
 rintro _ M40 _ hle41 ⟨_, ⟨rfl, rfl⟩, rfl⟩
 have h1_0 := h1_0.mono hle41
 have hE := hE.mono hle41
 refine ⟨(StabL.st (StabA.of rfl (PO.loadBA (cs := [v1_0, (.int .i64 a1.Code)]) 0 ag24 sz24 rfl rfl rfl) rfl) (StabL.anc rfl trivial)), ?_⟩
 refine WT.a0 ?_
 obtain ⟨r43, hr44, h⟩ := bnd h
 refine WT.alt rfl (EO.call0 co35 (f_ref01_Of_ok a1 _ _ h1_0 r43 hr44) (args1 rfl)) rfl ?_ ?_
 rintro _ M45 _ hle46 ⟨_, ⟨rfl, rfl⟩, rfl⟩
 have h1_0 := h1_0.mono hle46
 have hE := hE.mono hle46
 refine ⟨(StabL.anc rfl (StabL.anc rfl trivial)), ?_⟩
 refine WT.a0 ?_
 refine Tp (.bool (decide (r38 = r43))) rfl (PO.eql rfl rfl) rfl ?_
 refine Tp (.bool (decide (r38 = r43))) rfl (PO.move rfl) rfl ?_
 rcases Bool.eq_false_or_eq_true (decide (r38 = r43)) with hb48 | hb48
 have h := ite_t hb48 h
 refine Tn (.int .i64 r22) 24 rfl rfl rfl hb48 (PO.move rfl) rfl ?_
 refine Tn (.int .i64 r29) 24 rfl rfl rfl hb48 (PO.move rfl) rfl ?_
 refine Tn (.bool (decide (r22 = r29))) 24 rfl rfl rfl hb48 (PO.eql rfl rfl) rfl ?_
 refine Tp (.bool (decide (r22 = r29))) rfl (PO.pickT rfl hb48 rfl) rfl ?_
 refine Tp (.bool (decide (r22 = r29))) rfl (PO.move rfl) rfl ?_
 rcases Bool.eq_false_or_eq_true (decide (r22 = r29)) with hb49 | hb49
 have h := ite_t hb49 h
 refine Tn (.bool r23) 29 rfl rfl rfl hb49 (PO.move rfl) rfl ?_
 refine Tn (.bool r30) 29 rfl rfl rfl hb49 (PO.move rfl) rfl ?_
 refine Tn (.bool (r23 == r30)) 29 rfl rfl rfl hb49 (PO.beql Tryd.underlying4 rfl rfl) rfl ?_
 refine Tp (.bool (r23 == r30)) rfl (PO.pickT rfl hb49 rfl) rfl ?_
 refine Tp (.bool (r23 == r30)) rfl (PO.move rfl) rfl ?_
 rcases Bool.eq_false_or_eq_true (r23 == r30) with hb50 | hb50
 have h := ite_t hb50 h
 refine Tn (GV a0) 34 rfl rfl rfl hb50 (PO.move (hρ 0)) rfl ?_
 refine Tn (.agg #[v1_0, (.int .i64 a1.Code)]) 34 rfl rfl rfl hb50 (PO.loadBA (cs := [v1_0, (.int .i64 a1.Code)]) 0 ag24 sz24 rfl rfl rfl) rfl ?_
 obtain ⟨r51, hr52, h⟩ := bnd h
 refine WT.altOn 34 rfl rfl rfl hb50 (EO.call0 co11 (f_fault_Path_ok a0 _ hE r51 hr52) (args1 rfl)) rfl ?_ ?_
 rintro _ M53 _ hle54 ⟨_, ⟨vq55, cq55, rfl, rfl, hq55⟩, rfl⟩
 have h1_0 := h1_0.mono hle54
 have hE := hE.mono hle54
 refine ⟨(StabL.st (StabA.on 34 rfl rfl rfl hb50 (PO.loadBA (cs := [v1_0, (.int .i64 a1.Code)]) 1 ag24 sz24 rfl rfl rfl) rfl) (StabL.anc rfl (StabL.anc rfl (StabL.anc rfl (StabL.anc rfl (StabL.anc rfl (StabL.anc rfl (StabL.anc rfl (StabL.anc rfl (StabL.anc rfl (StabL.anc rfl (StabL.anc rfl (StabL.anc rfl (StabL.anc rfl (StabL.anc rfl (StabL.anc rfl trivial)))))))))))))))), ?_⟩
 refine WT.a1 ?_
 obtain ⟨r56, hr57, h⟩ := bnd h
 refine WT.altOn 34 rfl rfl rfl hb50 (EO.call0 co36 (f_ref01_Path_ok a1 _ _ h1_0 r56 hr57) (args1 rfl)) rfl ?_ ?_
 rintro _ M58 _ hle59 ⟨_, ⟨vq60, cq60, rfl, rfl, hq60⟩, rfl⟩
 have h1_0 := h1_0.mono hle59
 have hq55 := hq55.mono hle59
 have hE := hE.mono hle59
 refine ⟨(StabL.anc rfl (StabL.anc rfl (StabL.anc rfl (StabL.anc rfl (StabL.anc rfl (StabL.anc rfl (StabL.anc rfl (StabL.anc rfl (StabL.anc rfl (StabL.anc rfl (StabL.anc rfl (StabL.anc rfl (StabL.anc rfl (StabL.anc rfl (StabL.anc rfl (StabL.anc rfl trivial)))))))))))))))), ?_⟩
 refine WT.a1 ?_
 obtain ⟨r61, hr62, h⟩ := bnd h
 refine WT.f1 ?_
 refine WT.altOn 34 rfl rfl rfl hb50 (EO.call2 co13 (Tri.lend fun w0_ H0_ hs0_ => (Tri.lend fun w1_ H1_ hs1_ => (f_ref01_Texts_ok r51 r56 _ _ _ ((hq55.rs hs0_).mono (IM.le_add _ _)) ((hq60.mono (IM.le_add _ _)).rs hs1_) r61 hr62))) (args2 rfl rfl)) rfl ?_ ?_
 rintro _ _ _ hle64 ⟨_, ⟨Ml69, Hl70, hll71, rfl, rfl, ⟨Ml66, Hl67, hll68, rfl, rfl, ⟨rfl, rfl⟩⟩⟩, rfl⟩
 have h1_0 := h1_0.mono hle64
 have hq55 := hq55.mono hle64
 have hq60 := hq60.mono hle64
 have hE := hE.mono hle64
 refine ⟨(StabL.anc rfl (StabL.anc rfl (StabL.anc rfl (StabL.anc rfl (StabL.anc rfl (StabL.anc rfl (StabL.anc rfl (StabL.anc rfl (StabL.anc rfl (StabL.anc rfl (StabL.anc rfl (StabL.anc rfl (StabL.anc rfl (StabL.anc rfl (StabL.anc rfl (StabL.anc rfl trivial)))))))))))))))), ?_⟩
 refine WT.a2 ?_
 refine Tp (.bool r61) rfl (PO.pickT rfl hb50 rfl) rfl ?_
 refine Tp (.bool r61) rfl (PO.move rfl) rfl ?_
 rcases Bool.eq_false_or_eq_true (r61) with hb72 | hb72
 have h := ite_t hb72 h
 refine Tn (GV a0) 41 rfl rfl rfl hb72 (PO.move (hρ 0)) rfl ?_
 refine Tn (.bool a0.isNil) 41 rfl rfl rfl hb72 (PO.errNil Tryd.underlying28 rfl) rfl ?_
 refine Tn (.pointer (some ⟨g21, 1, none⟩)) 41 rfl rfl rfl hb72 (PO.fieldAddr fo24_1 rfl rfl) rfl ?_
 refine Tn (.int .i64 a1.Code) 41 rfl rfl rfl hb72 (PO.loadB 2 pl3 rfl rfl rfl) rfl ?_
 refine Tn (.bool (decide (a1.Code = (0 : Int)))) 41 rfl rfl rfl hb72 (PO.eql rfl rfl) rfl ?_
 refine Tn (.bool (a0.isNil == (decide (a1.Code = (0 : Int))))) 41 rfl rfl rfl hb72 (PO.beql Tryd.underlying4 rfl rfl) rfl ?_
 refine Tp (.bool (a0.isNil == (decide (a1.Code = (0 : Int))))) rfl (PO.pickT rfl hb72 rfl) rfl ?_
 refine Tp (.bool (a0.isNil == (decide (a1.Code = (0 : Int))))) rfl (PO.assign rfl) rfl ?_
 refine WT.fin ?_
 refine WQ.drop ?_
 refine WQ.drop ?_
 obtain rfl := Option.some.inj h
 refine WQ.thenJ ?_
 exact ⟨((((hle41.trans hle46).trans hle54).trans hle59).trans hle64), rfl, rfl⟩
 have h := ite_f hb72 h
 refine WT.pureOff 41 rfl rfl rfl hb72 rfl ?_
 refine WT.pureOff 41 rfl rfl rfl hb72 rfl ?_
 refine WT.pureOff 41 rfl rfl rfl hb72 rfl ?_
 refine WT.pureOff 41 rfl rfl rfl hb72 rfl ?_
 refine WT.pureOff 41 rfl rfl rfl hb72 rfl ?_
 refine WT.pureOff 41 rfl rfl rfl hb72 rfl ?_
 refine Tp (.bool false) rfl (PO.pickF rfl hb72 rfl) rfl ?_
 refine Tp (.bool false) rfl (PO.assign rfl) rfl ?_
 refine WT.fin ?_
 refine WQ.drop ?_
 refine WQ.drop ?_
 obtain rfl := Option.some.inj h
 refine WQ.thenJ ?_
 exact ⟨((((hle41.trans hle46).trans hle54).trans hle59).trans hle64), rfl, rfl⟩
 exact WT.no
 exact WT.no
 exact WT.no
 have h := ite_f hb50 h
 refine WT.pureOff 34 rfl rfl rfl hb50 rfl ?_
 refine WT.pureOff 34 rfl rfl rfl hb50 rfl ?_
 refine WT.altOff 34 rfl rfl rfl hb50 rfl ⟨(StabL.st (StabA.off 34 rfl rfl rfl hb50 rfl) (StabL.anc rfl (StabL.anc rfl (StabL.anc rfl (StabL.anc rfl (StabL.anc rfl (StabL.anc rfl (StabL.anc rfl (StabL.anc rfl (StabL.anc rfl (StabL.anc rfl (StabL.anc rfl (StabL.anc rfl (StabL.anc rfl (StabL.anc rfl (StabL.anc rfl trivial)))))))))))))))), ?_⟩ ?_
 refine WT.altOff 34 rfl rfl rfl hb50 rfl ⟨(StabL.anc rfl (StabL.anc rfl (StabL.anc rfl (StabL.anc rfl (StabL.anc rfl (StabL.anc rfl (StabL.anc rfl (StabL.anc rfl (StabL.anc rfl (StabL.anc rfl (StabL.anc rfl (StabL.anc rfl (StabL.anc rfl (StabL.anc rfl (StabL.anc rfl (StabL.anc rfl trivial)))))))))))))))), ?_⟩ ?_
 refine WT.altOff 34 rfl rfl rfl hb50 rfl ⟨(StabL.anc rfl (StabL.anc rfl (StabL.anc rfl (StabL.anc rfl (StabL.anc rfl (StabL.anc rfl (StabL.anc rfl (StabL.anc rfl (StabL.anc rfl (StabL.anc rfl (StabL.anc rfl (StabL.anc rfl (StabL.anc rfl (StabL.anc rfl (StabL.anc rfl (StabL.anc rfl trivial)))))))))))))))), ?_⟩ ?_
 refine Tp (.bool false) rfl (PO.pickF rfl hb50 rfl) rfl ?_
 refine Tp (.bool false) rfl (PO.move rfl) rfl ?_
 refine WT.pureOff 41 rfl rfl rfl rfl rfl ?_
 refine WT.pureOff 41 rfl rfl rfl rfl rfl ?_
 refine WT.pureOff 41 rfl rfl rfl rfl rfl ?_
 refine WT.pureOff 41 rfl rfl rfl rfl rfl ?_
 refine WT.pureOff 41 rfl rfl rfl rfl rfl ?_
 refine WT.pureOff 41 rfl rfl rfl rfl rfl ?_
 refine Tp (.bool false) rfl (PO.pickF rfl rfl rfl) rfl ?_
 refine Tp (.bool false) rfl (PO.assign rfl) rfl ?_
 refine WT.fin ?_
 obtain rfl := Option.some.inj h
 refine WQ.thenJ ?_
 exact ⟨(hle41.trans hle46), rfl, rfl⟩
 exact WT.no
 exact WT.no
 exact WT.no
 have h := ite_f hb49 h
 refine WT.pureOff 29 rfl rfl rfl hb49 rfl ?_
 refine WT.pureOff 29 rfl rfl rfl hb49 rfl ?_
 refine WT.pureOff 29 rfl rfl rfl hb49 rfl ?_
 refine Tp (.bool false) rfl (PO.pickF rfl hb49 rfl) rfl ?_
 refine Tp (.bool false) rfl (PO.move rfl) rfl ?_
 refine WT.pureOff 34 rfl rfl rfl rfl rfl ?_
 refine WT.pureOff 34 rfl rfl rfl rfl rfl ?_
 refine WT.altOff 34 rfl rfl rfl rfl rfl ⟨(StabL.st (StabA.off 34 rfl rfl rfl rfl rfl) (StabL.anc rfl (StabL.anc rfl (StabL.anc rfl (StabL.anc rfl (StabL.anc rfl (StabL.anc rfl (StabL.anc rfl (StabL.anc rfl (StabL.anc rfl (StabL.anc rfl (StabL.anc rfl (StabL.anc rfl (StabL.anc rfl (StabL.anc rfl (StabL.anc rfl trivial)))))))))))))))), ?_⟩ ?_
 refine WT.altOff 34 rfl rfl rfl rfl rfl ⟨(StabL.anc rfl (StabL.anc rfl (StabL.anc rfl (StabL.anc rfl (StabL.anc rfl (StabL.anc rfl (StabL.anc rfl (StabL.anc rfl (StabL.anc rfl (StabL.anc rfl (StabL.anc rfl (StabL.anc rfl (StabL.anc rfl (StabL.anc rfl (StabL.anc rfl (StabL.anc rfl trivial)))))))))))))))), ?_⟩ ?_
 refine WT.altOff 34 rfl rfl rfl rfl rfl ⟨(StabL.anc rfl (StabL.anc rfl (StabL.anc rfl (StabL.anc rfl (StabL.anc rfl (StabL.anc rfl (StabL.anc rfl (StabL.anc rfl (StabL.anc rfl (StabL.anc rfl (StabL.anc rfl (StabL.anc rfl (StabL.anc rfl (StabL.anc rfl (StabL.anc rfl (StabL.anc rfl trivial)))))))))))))))), ?_⟩ ?_
 refine Tp (.bool false) rfl (PO.pickF rfl rfl rfl) rfl ?_
 refine Tp (.bool false) rfl (PO.move rfl) rfl ?_
 refine WT.pureOff 41 rfl rfl rfl rfl rfl ?_
 refine WT.pureOff 41 rfl rfl rfl rfl rfl ?_
 refine WT.pureOff 41 rfl rfl rfl rfl rfl ?_
 refine WT.pureOff 41 rfl rfl rfl rfl rfl ?_
 refine WT.pureOff 41 rfl rfl rfl rfl rfl ?_
 refine WT.pureOff 41 rfl rfl rfl rfl rfl ?_
 refine Tp (.bool false) rfl (PO.pickF rfl rfl rfl) rfl ?_
 refine Tp (.bool false) rfl (PO.assign rfl) rfl ?_
 refine WT.fin ?_
 obtain rfl := Option.some.inj h
 refine WQ.thenJ ?_
 exact ⟨(hle41.trans hle46), rfl, rfl⟩
 exact WT.no
 exact WT.no
 exact WT.no
 have h := ite_f hb48 h
 refine WT.pureOff 24 rfl rfl rfl hb48 rfl ?_
 refine WT.pureOff 24 rfl rfl rfl hb48 rfl ?_
 refine WT.pureOff 24 rfl rfl rfl hb48 rfl ?_
 refine Tp (.bool false) rfl (PO.pickF rfl hb48 rfl) rfl ?_
 refine Tp (.bool false) rfl (PO.move rfl) rfl ?_
 refine WT.pureOff 29 rfl rfl rfl rfl rfl ?_
 refine WT.pureOff 29 rfl rfl rfl rfl rfl ?_
 refine WT.pureOff 29 rfl rfl rfl rfl rfl ?_
 refine Tp (.bool false) rfl (PO.pickF rfl rfl rfl) rfl ?_
 refine Tp (.bool false) rfl (PO.move rfl) rfl ?_
 refine WT.pureOff 34 rfl rfl rfl rfl rfl ?_
 refine WT.pureOff 34 rfl rfl rfl rfl rfl ?_
 refine WT.altOff 34 rfl rfl rfl rfl rfl ⟨(StabL.st (StabA.off 34 rfl rfl rfl rfl rfl) (StabL.anc rfl (StabL.anc rfl (StabL.anc rfl (StabL.anc rfl (StabL.anc rfl (StabL.anc rfl (StabL.anc rfl (StabL.anc rfl (StabL.anc rfl (StabL.anc rfl (StabL.anc rfl (StabL.anc rfl (StabL.anc rfl (StabL.anc rfl (StabL.anc rfl trivial)))))))))))))))), ?_⟩ ?_
 refine WT.altOff 34 rfl rfl rfl rfl rfl ⟨(StabL.anc rfl (StabL.anc rfl (StabL.anc rfl (StabL.anc rfl (StabL.anc rfl (StabL.anc rfl (StabL.anc rfl (StabL.anc rfl (StabL.anc rfl (StabL.anc rfl (StabL.anc rfl (StabL.anc rfl (StabL.anc rfl (StabL.anc rfl (StabL.anc rfl (StabL.anc rfl trivial)))))))))))))))), ?_⟩ ?_
 refine WT.altOff 34 rfl rfl rfl rfl rfl ⟨(StabL.anc rfl (StabL.anc rfl (StabL.anc rfl (StabL.anc rfl (StabL.anc rfl (StabL.anc rfl (StabL.anc rfl (StabL.anc rfl (StabL.anc rfl (StabL.anc rfl (StabL.anc rfl (StabL.anc rfl (StabL.anc rfl (StabL.anc rfl (StabL.anc rfl (StabL.anc rfl trivial)))))))))))))))), ?_⟩ ?_
 refine Tp (.bool false) rfl (PO.pickF rfl rfl rfl) rfl ?_
 refine Tp (.bool false) rfl (PO.move rfl) rfl ?_
 refine WT.pureOff 41 rfl rfl rfl rfl rfl ?_
 refine WT.pureOff 41 rfl rfl rfl rfl rfl ?_
 refine WT.pureOff 41 rfl rfl rfl rfl rfl ?_
 refine WT.pureOff 41 rfl rfl rfl rfl rfl ?_
 refine WT.pureOff 41 rfl rfl rfl rfl rfl ?_
 refine WT.pureOff 41 rfl rfl rfl rfl rfl ?_
 refine Tp (.bool false) rfl (PO.pickF rfl rfl rfl) rfl ?_
 refine Tp (.bool false) rfl (PO.assign rfl) rfl ?_
 refine WT.fin ?_
 obtain rfl := Option.some.inj h
 refine WQ.thenJ ?_
 exact ⟨(hle41.trans hle46), rfl, rfl⟩
 exact WT.no
 exact WT.no
 exact WT.no
 exact WT.no
 exact WT.no
 rintro ρ37 M37 H37 ⟨hle37, rfl, hs37_4⟩
 have h1_0 := h1_0.mono hle37
 have hE := hE.mono hle37
 refine WC.ret ?_
 refine WQ.drop ?_
 exact WQ.returnsF h [] rfl (results1 rfl hs37_4) ((hle26.trans hle33).trans hle37) ⟨rfl, rfl⟩


end Go.Proofs.YtmifmgpfjamdkaaDoor.G
