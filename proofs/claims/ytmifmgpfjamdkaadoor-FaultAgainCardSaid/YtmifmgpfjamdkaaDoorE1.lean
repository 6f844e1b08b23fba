/- Go functions: what they come to, and that they do. Printed by a program of the session (gen). -/
import Derived.Test.YtmifmgpfjamdkaaDoorEF
import Derived.Test.YtmifmgpfjamdkaaDoorE0
import Derived.Test.YtmifmgpfjamdkaaDoorKAny
set_option linter.unusedVariables false
set_option linter.unusedSimpArgs false
namespace Go.Proofs.YtmifmgpfjamdkaaDoor.G
open Go Go.KK

noncomputable def f_errors_Is (a0 : GErr) (a1 : Int) : Option Bool :=
  (if a0.isNil = true then (match a0 with | .nil => (some false) | .code n22 => (some (decide (n22 = a1))) | .fault o23 a24 e25 => (some false) | .other b26 => (some false)) else ((f_errors_is a0 a1).bind fun (r27 : Bool) => (some r27)))
def f_errors_Is_post (a0 : GErr) (a1 : Int) : Bool → Value → IM → HL → Prop :=
  fun (r0 : Bool) (v : Value) (M' : IM) (H' : HL) => (.bool r0) = v ∧ H' = []
set_option maxHeartbeats 8000000 in
set_option maxRecDepth 100000 in
theorem f_errors_Is_ok (a0 : GErr) (a1 : Int) (M : IM) (res : Bool) (h : f_errors_Is a0 a1 = some res) :
    Tri Tryd.prog 41 #[(GV a0), (GV (GErr.code a1))] M [] (f_errors_Is_post a0 a1 res) := by
 unfold f_errors_Is at h
 refine Tri.enter (fn := Tryd.f41) Tryd.func41 rfl (Nat.le_of_ble_eq_true rfl) ?_
 intro F ρ hρ
 refine Sr ?_
 refine Pa (.bool false) rfl rfl ?_
 refine Nt ?_
 refine WC.seq ?_
 refine Sr ?_
 refine Pm (GV a0) (hρ 0) rfl ?_
 refine Pu (.bool a0.isNil) (PO.errNil Tryd.underlying28 rfl) rfl ?_
 refine Pm (.bool a0.isNil) rfl rfl ?_
 rcases Bool.eq_false_or_eq_true (a0.isNil) with hb21 | hb21
 have h := ite_t hb21 h
 iterate 2 refine Of 8 rfl rfl hb21 rfl ?_
 refine Pu (.bool true) (PO.pickT rfl hb21 rfl) rfl ?_
 refine Nt ?_
 refine WC.condT (b := true) rfl rfl ?_
 refine Sr ?_
 refine Pm (GV a0) (hρ 0) rfl ?_
 refine Pm (GV (GErr.code a1)) (hρ 1) rfl ?_
 rcases a0 with _ | n22 | ⟨o23, a24, e25⟩ | b26
 refine Pu (.bool false) (PO.nilIfaceNe Tryd.underlying28 (show ev _ _ = .nilIface from rfl) (show ev _ _ = (.iface 35 (.int .i64 a1)) from rfl)) rfl ?_
 refine Pa (.bool false) rfl rfl ?_
 refine Nt ?_
 refine WC.ret ?_
 refine WQ.thenR ?_
 exact WQ.returnsF h [] rfl (results1 rfl rfl) (IM.le.refl _) ⟨rfl, rfl⟩
 refine Pu (.bool (decide (n22 = a1))) (PO.ifaceInt Tryd.underlying28 Tryd.underlying35 cm35 (show ev _ _ = (.iface 35 (.int .i64 n22)) from rfl) (show ev _ _ = (.iface 35 (.int .i64 a1)) from rfl)) rfl ?_
 refine Pa (.bool (decide (n22 = a1))) rfl rfl ?_
 refine Nt ?_
 refine WC.ret ?_
 refine WQ.thenR ?_
 exact WQ.returnsF h [] rfl (results1 rfl rfl) (IM.le.refl _) ⟨rfl, rfl⟩
 refine Pu (.bool false) (PO.ifaceNe Tryd.underlying28 (show ev _ _ = (.iface 65 (.agg #[.string o23, .int .i64 a24, GV e25])) from rfl) (show ev _ _ = (.iface 35 (.int .i64 a1)) from rfl) rfl) rfl ?_
 refine Pa (.bool false) rfl rfl ?_
 refine Nt ?_
 refine WC.ret ?_
 refine WQ.thenR ?_
 exact WQ.returnsF h [] rfl (results1 rfl rfl) (IM.le.refl _) ⟨rfl, rfl⟩
 refine Pu (.bool false) (PO.ifaceNe Tryd.underlying28 (show ev _ _ = (.iface 83 (.pointer (some b26))) from rfl) (show ev _ _ = (.iface 35 (.int .i64 a1)) from rfl) rfl) rfl ?_
 refine Pa (.bool false) rfl rfl ?_
 refine Nt ?_
 refine WC.ret ?_
 refine WQ.thenR ?_
 exact WQ.returnsF h [] rfl (results1 rfl rfl) (IM.le.refl _) ⟨rfl, rfl⟩
 have h := ite_f hb21 h
 refine On 8 rfl rfl hb21 ?_
 refine Pm (GV (GErr.code a1)) (hρ 1) rfl ?_
 refine On 8 rfl rfl hb21 ?_
 refine Pu (.bool false) (PO.errNil (tc := 35) (tf := 65) (tp := 83) (e := GErr.code a1) Tryd.underlying28 rfl) rfl ?_
 refine Pu (.bool false) (PO.pickF rfl hb21 rfl) rfl ?_
 refine Nt ?_
 refine WC.condF (b := false) rfl rfl ?_
 refine WC.skip ?_
 refine WQ.thenC ?_
 refine Sr ?_
 refine Pm (GV (GErr.code a1)) (hρ 1) rfl ?_
 refine WL.eff (EO.extP xt49 (args1 (show ev _ _ = (.iface 35 (.int .i64 a1)) from rfl)) (ty35 _)) rfl ?_
 rintro _ _ _ - ⟨rfl, rfl, rfl⟩
 refine WL.eff (EO.invE (show ev _ _ = (.iface 104 (.agg #[.pointer (some ⟨1, 35, none⟩)])) from rfl) (mm_Comparable (.pointer (some ⟨1, 35, none⟩))) xt79 inv0 mr_Comparable_35) rfl ?_
 rintro _ _ _ - ⟨rfl, rfl, rfl⟩
 refine Pa (.bool true) rfl rfl ?_
 refine Ns ?_
 refine Pm (GV a0) (hρ 0) rfl ?_
 refine Pm (GV (GErr.code a1)) (hρ 1) rfl ?_
 refine Pm (.bool true) rfl rfl ?_
 obtain ⟨r27, hr28, h⟩ := bnd h
 refine WL.eff (EO.call0 co50 (f_errors_is_ok a0 a1 _ r27 hr28) (args3 rfl rfl rfl)) rfl ?_
 rintro _ M29 _ hle30 ⟨_, ⟨rfl, rfl⟩, rfl⟩
 refine WL.a0 ?_
 refine Pa (.bool r27) rfl rfl ?_
 refine Nt ?_
 refine WC.ret ?_
 exact WQ.returnsF h [] rfl (results1 rfl rfl) hle30 ⟨rfl, rfl⟩

noncomputable def f_fault_Is (a0 : GErr) (a1 : Int) : Option Bool :=
  ((f_errors_Is a0 a1).bind fun (r21 : Bool) => (some r21))
def f_fault_Is_post (a0 : GErr) (a1 : Int) : Bool → Value → IM → HL → Prop :=
  fun (r0 : Bool) (v : Value) (M' : IM) (H' : HL) => (.bool r0) = v ∧ H' = []
set_option maxHeartbeats 8000000 in
set_option maxRecDepth 100000 in
theorem f_fault_Is_ok (a0 : GErr) (a1 : Int) (M : IM) (res : Bool) (h : f_fault_Is a0 a1 = some res) :
    Tri Tryd.prog 30 #[(GV a0), (.int .i64 a1)] M [] (f_fault_Is_post a0 a1 res) := by
 unfold f_fault_Is at h
 refine Tri.enter (fn := Tryd.f30) Tryd.func30 rfl (Nat.le_of_ble_eq_true rfl) ?_
 intro F ρ hρ
 refine Sr ?_
 refine Pa (.bool false) rfl rfl ?_
 refine Ns ?_
 refine Pm (GV a0) (hρ 0) rfl ?_
 refine Pm (.int .i64 a1) (hρ 1) rfl ?_
 refine Pu (GV (GErr.code a1)) (PO.makeInterface cc35 rfl) rfl ?_
 obtain ⟨r21, hr22, h⟩ := bnd h
 refine WL.eff (EO.call0 co41 (f_errors_Is_ok a0 a1 _ r21 hr22) (args2 rfl rfl)) rfl ?_
 rintro _ M23 _ hle24 ⟨_, ⟨rfl, rfl⟩, rfl⟩
 refine WL.a0 ?_
 refine Pa (.bool r21) rfl rfl ?_
 refine Nt ?_
 refine WC.ret ?_
 exact WQ.returnsF h [] rfl (results1 rfl rfl) hle24 ⟨rfl, rfl⟩

noncomputable def f_fault_Path_l0 (s_ : (GErr × (List ByteArray))) : Option ((GErr × (List ByteArray)) ⊕ (List ByteArray)) :=
  match s_ with
  | (x24, x25) =>
    (if (!x24.isNil) = true then ((f_errors_As_fault x24 (⟨(⟨#[]⟩ : ByteArray), (0 : Int), GErr.nil⟩ : T_api_Fault)).bind fun (r29, r30, r31, r32) => (if (!r29) = true then (some (Sum.inr x25)) else (grd (x25.length + [r30].length ≤ 274877906944) (some (Sum.inl (r32, x25 ++ [r30])))))) else (some (Sum.inr x25)))
noncomputable def f_fault_Path (a0 : GErr) : Option (List ByteArray) :=
  ((((iter (f_fault_Path_l0) (a0, [])).bind (fun (x26 : (List ByteArray)) => (some x26))) : Option (List ByteArray)).bind fun (x21 : (List ByteArray)) => (some x21))
def f_fault_Path_post (a0 : GErr) : (List ByteArray) → Value → IM → HL → Prop :=
  fun (r0 : (List ByteArray)) (v : Value) (M' : IM) (H' : HL) => ∃ vz0 cz0, vz0 = v ∧ H' = [cz0] ∧ OwnS Kd.str M' vz0 r0 cz0
set_option maxHeartbeats 8000000 in
set_option maxRecDepth 100000 in
theorem f_fault_Path_ok (a0 : GErr) (M : IM) (hE : Env M) (res : (List ByteArray)) (h : f_fault_Path a0 = some res) :
    Tri Tryd.prog 11 #[(GV a0)] M [] (f_fault_Path_post a0 res) := by
 unfold f_fault_Path at h
 refine Tri.enter (fn := Tryd.f11) Tryd.func11 rfl (Nat.le_of_ble_eq_true rfl) ?_
 intro F ρ hρ
 refine Sr ?_
 refine Pa (.slice none 0 0) rfl rfl ?_
 refine Ns ?_
 refine Pa (.slice none 0 0) rfl rfl ?_
 refine Nt ?_
 obtain ⟨x21, hj22, h⟩ := bnd h
 refine WC.joinF (fun (x21 : (List ByteArray)) ρ' M' H' => ∃ vx21 cx21, M.le M' ∧ cx21 :: F = H' ∧ ρ' 3 = vx21 ∧ OwnS Kd.str M' vx21 x21 cx21) x21 ?_ ?_
 have h322 := h
 have h := hj22
 refine WC.block ?_
 refine WC.e0 ?_
 obtain ⟨e23, he23, hK23⟩ := bnd h
 clear h
 refine WC.loop he23 (fun (p_ : (GErr × (List ByteArray))) ρ' M' H' => match p_ with | (x24, x25) => ∃ vx25 cx25, M.le M' ∧ cx25 :: F = H' ∧ ρ' 0 = (GV x24) ∧ ρ' 3 = vx25 ∧ OwnS Kd.str M' vx25 x25 cx25) ?_ ?_
 exact ⟨(.slice none 0 0), [], (IM.le.refl _), rfl, (hρ 0), rfl, (OwnS.nil _ _)⟩
 rintro ⟨x24, x25⟩ o23 ρ23 M23 H23 h ⟨vx25, cx25, hle23, rfl, hs23_0, hs23_3, hx25⟩
 unfold f_fault_Path_l0 at h
 have hE := hE.mono hle23
 refine WC.seq ?_
 refine Sr ?_
 refine Pm (GV x24) hs23_0 rfl ?_
 refine Pu (.bool (!x24.isNil)) (PO.errNotNil Tryd.underlying28 rfl) rfl ?_
 refine Nt ?_
 refine WC.cond (b := !x24.isNil) rfl (fun hb27 => ?_) (fun hb27 => ?_)
 have h := ite_t hb27 h
 refine WC.skip ?_
 refine WQ.thenC ?_
 refine WC.block ?_
 refine Sr ?_
 refine WL.eff (EO.alloc ze65 rfl) rfl ?_
 rintro _ _ _ - ⟨rfl, g28, rfl, rfl⟩
 refine Nt ?_
 refine WC.seq ?_
 refine Sr ?_
 refine Pm (GV x24) hs23_0 rfl ?_
 refine Pu (.iface 67 (.pointer (some ⟨g28, 0, none⟩))) (PO.makeInterface cc67 rfl) rfl ?_
 obtain ⟨⟨r29, r30, r31, r32⟩, hr33, h⟩ := bnd h
 refine WL.eff (EO.call1 co33 (f_errors_As_fault_ok x24 (⟨(⟨#[]⟩ : ByteArray), (0 : Int), GErr.nil⟩ : T_api_Fault) _ _ hE (r29, r30, r31, r32) hr33) (args2 rfl rfl)) rfl ?_
 rintro _ M34 _ hle35 ⟨_, ⟨rfl, rfl⟩, rfl⟩
 have hx25 := hx25.mono hle35
 have hE := hE.mono hle35
 refine WL.a1 ?_
 refine Pu (.bool (!r29)) (PO.not rfl) rfl ?_
 refine Nt ?_
 refine WC.cond (b := !r29) rfl (fun hb37 => ?_) (fun hb37 => ?_)
 have h := ite_t hb37 h
 refine WC.exit ?_
 refine WQ.thenE ?_
 refine WQ.blockM rfl ?_
 refine WQ.leaveE x25 (Option.some.inj h).symm (fun heq23 => ?_)
 subst heq23
 have h := hK23
 refine WQ.blockH ?_
 refine WQ.drop ?_
 obtain rfl := Option.some.inj h
 refine WQ.thenJ ?_
 exact ⟨vx25, cx25, (hle23.trans hle35), rfl, hs23_3, hx25⟩
 have h := ite_f hb37 h
 refine WC.skip ?_
 refine WQ.thenC ?_
 refine Sr ?_
 refine Pm vx25 hs23_3 rfl ?_
 refine Pu (.pointer (some ⟨g28, 0, none⟩)) (PO.fieldAddr fo65_0 rfl rfl) rfl ?_
 refine Pu (.string r30) (PO.loadB 0 pl9 rfl rfl rfl) rfl ?_
 refine WL.eff (EO.buildSliceL (cl := [(.string r30)]) Tryd.underlying33 iz9 rfl (Parts.cons (congrArg Value.cells (show ev _ _ = (.string r30) from rfl)) Parts.nil) rfl) rfl ?_
 rintro _ _ _ - ⟨rfl, g38, rfl, rfl⟩
 have h40 : OwnS Kd.str M34 (.slice (some ⟨g38, 0, none⟩) 1 1) [r30] [(g38, .cells #[(.string r30)] 9 (0, 0))] := OwnS.rows (css := [[(.string r30)]]) (Rows.cons rfl Rows.nil) rfl rfl
 obtain ⟨hg44, h⟩ := grd_i h
 refine WL.f2 ?_
 refine WL.eff (EO.append (dd := Kd.str) (xs := x25) (ys := [r30]) Tryd.underlying33 Tryd.underlying33 in9 rfl (appB (by decide) hg44) (by decide) rfl rfl hx25 (h40.src 1 rfl)) rfl ?_
 rintro v43 _ _ - ⟨rfl, c41, rfl, h42⟩
 refine Pa v43 rfl rfl ?_
 refine Nt ?_
 refine WC.region ?_
 refine Pu (.pointer (some ⟨g28, 2, none⟩)) (PO.fieldAddr fo65_2 rfl rfl) rfl ?_
 refine Pu (GV r32) (PO.loadB 2 pl28 rfl rfl rfl) rfl ?_
 refine Pa (GV r32) rfl rfl ?_
 refine WL.nil ?_
 refine WQ.blockN ?_
 refine WQ.f1 ?_
 refine WQ.drop ?_
 refine WQ.f1 ?_
 refine WQ.drop ?_
 refine WQ.again (r32, x25 ++ [r30]) (Option.some.inj h).symm ?_
 exact ⟨v43, c41, (hle23.trans hle35), rfl, rfl, rfl, h42⟩
 have h := ite_f hb27 h
 refine WC.exit ?_
 refine WQ.thenE ?_
 refine WQ.leaveE x25 (Option.some.inj h).symm (fun heq23 => ?_)
 subst heq23
 have h := hK23
 refine WQ.blockH ?_
 obtain rfl := Option.some.inj h
 refine WQ.thenJ ?_
 exact ⟨vx25, cx25, hle23, rfl, hs23_3, hx25⟩
 rintro ρ22 M22 H22 ⟨vx21, cx21, hle22, rfl, hs22_3, hx21⟩
 have hE := hE.mono hle22
 refine Sr ?_
 refine Pm vx21 hs22_3 rfl ?_
 refine Pa vx21 rfl rfl ?_
 refine Nt ?_
 refine WC.ret ?_
 exact WQ.returnsF h [cx21] rfl (results1 rfl rfl) hle22 ⟨vx21, cx21, rfl, rfl, hx21⟩

noncomputable def f_fault_Under_l0 (a1 : ByteArray) (r22 : (List ByteArray)) (s_ : Int) : Option (Int ⊕ (Unit ⊕ Unit)) :=
  match s_ with
  | x28 =>
    (if (decide (x28 < (r22.length : Int))) = true then (grd (0 ≤ x28 ∧ x28 < r22.length) (if (decide ((rd r22 x28) = a1)) = true then (some (Sum.inr (Sum.inr ()))) else (some (Sum.inl (IntKind.i64.wrap (x28 + (1 : Int))))))) else (some (Sum.inr (Sum.inl ()))))
noncomputable def f_fault_Under (a0 : GErr) (a1 : ByteArray) : Option Bool :=
  ((((f_fault_Path a0).bind fun (r22 : (List ByteArray)) => ((iter (f_fault_Under_l0 a1 r22) (0 : Int)).bind (Sum.elim (fun _ => (some (Sum.inl ()))) (fun _ => (((some true)).bind fun r => some (Sum.inr r)))))) : Option (Unit ⊕ Bool)).bind (Sum.elim (fun _ => (some false)) some))
def f_fault_Under_post (a0 : GErr) (a1 : ByteArray) : Bool → Value → IM → HL → Prop :=
  fun (r0 : Bool) (v : Value) (M' : IM) (H' : HL) => (.bool r0) = v ∧ H' = []
set_option maxHeartbeats 8000000 in
set_option maxRecDepth 100000 in
theorem f_fault_Under_ok (a0 : GErr) (a1 : ByteArray) (M : IM) (hE : Env M) (res : Bool) (h : f_fault_Under a0 a1 = some res) :
    Tri Tryd.prog 31 #[(GV a0), (.string a1)] M [] (f_fault_Under_post a0 a1 res) := by
 unfold f_fault_Under at h
 refine Tri.enter (fn := Tryd.f31) Tryd.func31 rfl (Nat.le_of_ble_eq_true rfl) ?_
 intro F ρ hρ
 refine Sr ?_
 refine Pa (.bool false) rfl rfl ?_
 refine Nt ?_
 obtain ⟨j21, hj21, h⟩ := bnd h
 refine WC.joinE (fun (_ : Unit) ρ' M' H' => M.le M' ∧ F = H') j21 ?_ ?_
 have h321 := h
 have h := hj21
 refine Sr ?_
 refine Pm (GV a0) (hρ 0) rfl ?_
 obtain ⟨r22, hr23, h⟩ := bnd h
 refine WL.eff (EO.call0 co11 (f_fault_Path_ok a0 _ hE r22 hr23) (args1 rfl)) rfl ?_
 rintro _ M24 _ hle25 ⟨_, ⟨vq26, cq26, rfl, rfl, hq26⟩, rfl⟩
 have hE := hE.mono hle25
 refine WL.a1 ?_
 refine Pu (.int .i64 (r22.length : Int)) (PO.lenS Tryd.underlying33 rfl hq26.len) rfl ?_
 refine Pm (.int .i64 (0 : Int)) rfl rfl ?_
 refine Nt ?_
 refine WC.block ?_
 obtain ⟨e27, he27, hK27⟩ := bnd h
 clear h
 refine WC.loop he27 (fun (x28 : Int) ρ' M' H' => M24.le M' ∧ cq26 :: F = H' ∧ ρ' 1 = (.string a1) ∧ ρ' 8 = vq26 ∧ ρ' 9 = (.int .i64 (r22.length : Int)) ∧ ρ' 10 = (.int .i64 x28)) ?_ ?_
 exact ⟨(IM.le.refl _), rfl, (hρ 1), rfl, rfl, rfl⟩
 rintro x28 o27 ρ27 M27 H27 h ⟨hle27, rfl, hs27_1, hs27_8, hs27_9, hs27_10⟩
 unfold f_fault_Under_l0 at h
 have hq26 := hq26.mono hle27
 have hE := hE.mono hle27
 refine Sr ?_
 refine Pu (.bool (decide (x28 < (r22.length : Int)))) (PO.lss hs27_10 hs27_9) rfl ?_
 refine Nt ?_
 refine WC.seq ?_
 refine WC.cond (b := decide (x28 < (r22.length : Int))) rfl (fun hb29 => ?_) (fun hb29 => ?_)
 have h := ite_t hb29 h
 refine WC.skip ?_
 refine WQ.thenC ?_
 refine WC.seq ?_
 refine WC.block ?_
 refine Sr ?_
 obtain ⟨hg30, h⟩ := grd_i h
 obtain ⟨p31, cs32, hat33, hrc34, hhas35⟩ := hq26.at hg30.1 hg30.2
 obtain rfl := hrc34
 refine Pu (.pointer (some p31)) (PO.indexAddr (n := r22.length) Tryd.underlying33 sz9 hs27_8 hs27_10 hg30.1 hg30.2 hat33) rfl ?_
 refine Pu (.string (rd r22 x28)) (PO.loadC 0 pl9 rfl rfl (chunkHas0 hhas35)) rfl ?_
 refine Pa (.string (rd r22 x28)) rfl rfl ?_
 refine Ns ?_
 refine Pm (.string (rd r22 x28)) rfl rfl ?_
 refine Pm (.string a1) hs27_1 rfl ?_
 refine Pu (.bool (decide ((rd r22 x28) = a1))) (PO.seql rfl rfl) rfl ?_
 refine Nt ?_
 refine WC.cond (b := decide ((rd r22 x28) = a1)) rfl (fun hb37 => ?_) (fun hb37 => ?_)
 have h := ite_t hb37 h
 refine Sr ?_
 refine Pa (.bool true) rfl rfl ?_
 refine Nt ?_
 refine WC.ret ?_
 refine WQ.blockR ?_
 refine WQ.thenR ?_
 refine WQ.leaveR (Sum.inr ()) (Option.some.inj h).symm (fun heq27 => ?_)
 subst heq27
 have h := (elimR hK27)
 refine WQ.blockR ?_
 refine WQ.thenR ?_
 have h := KK.early h h321
 refine WQ.drop ?_
 exact WQ.returnsF h [] rfl (results1 rfl rfl) (hle25.trans hle27) ⟨rfl, rfl⟩
 have h := ite_f hb37 h
 refine WC.skip ?_
 refine WQ.blockN ?_
 refine WQ.thenC ?_
 refine WC.region ?_
 refine Pu (.int .i64 (IntKind.i64.wrap (x28 + (1 : Int)))) (PO.add hs27_10 rfl) rfl ?_
 refine Pm (.int .i64 (IntKind.i64.wrap (x28 + (1 : Int)))) rfl rfl ?_
 refine WL.nil ?_
 refine WQ.again (IntKind.i64.wrap (x28 + (1 : Int))) (Option.some.inj h).symm ?_
 exact ⟨hle27, rfl, hs27_1, hs27_8, hs27_9, rfl⟩
 have h := ite_f hb29 h
 refine WC.exit ?_
 refine WQ.thenE ?_
 refine WQ.leaveE (Sum.inl ()) (Option.some.inj h).symm (fun heq27 => ?_)
 subst heq27
 have h := elimL hK27
 refine WQ.blockH ?_
 refine WQ.drop ?_
 refine WQ.thenFE h ?_
 exact ⟨(hle25.trans hle27), rfl⟩
 rintro _ ρ21 M21 H21 rfl ⟨hle21, rfl⟩
 have hE := hE.mono hle21
 refine Sr ?_
 refine Pa (.bool false) rfl rfl ?_
 refine Nt ?_
 refine WC.ret ?_
 exact WQ.returnsF h [] rfl (results1 rfl rfl) hle21 ⟨rfl, rfl⟩

noncomputable def f_errors_New (a0 : ByteArray) : Option Unit :=
  (some ())
def f_errors_New_post (a0 : ByteArray) : Unit → Value → IM → HL → Prop :=
  fun (_ : Unit) (v : Value) (M' : IM) (H' : HL) => ∃ e_, (GV (GErr.other e_)) = v ∧ H' = []
set_option maxHeartbeats 8000000 in
set_option maxRecDepth 100000 in
theorem f_errors_New_ok (a0 : ByteArray) (M : IM) (res : Unit) (h : f_errors_New a0 = some res) :
    Tri Tryd.prog 32 #[(.string a0)] M [] (f_errors_New_post a0 res) := by
 unfold f_errors_New at h
 refine Tri.enter (fn := Tryd.f32) Tryd.func32 rfl (Nat.le_of_ble_eq_true rfl) ?_
 intro F ρ hρ
 refine Sr ?_
 refine Pa (GV GErr.nil) rfl rfl ?_
 refine Ns ?_
 refine Pm (.string a0) (hρ 0) rfl ?_
 refine Pu (.agg #[(.string a0)]) (PO.buildL (cl := [(.string a0)]) ze85 fp85 (Parts.cons (congrArg Value.cells (show ev _ _ = (.string a0) from rfl)) Parts.nil) rfl) rfl ?_
 refine WL.eff (EO.box (cs := #[(.string a0)]) (congrArg Value.cells (show ev _ _ = (.agg #[(.string a0)]) from rfl))) rfl ?_
 rintro _ _ _ - ⟨rfl, g21, rfl, rfl⟩
 refine Pu (.iface 83 (.pointer (some ⟨g21, 0, none⟩))) (PO.makeInterface cc83 rfl) rfl ?_
 refine Pa (.iface 83 (.pointer (some ⟨g21, 0, none⟩))) rfl rfl ?_
 refine Nt ?_
 refine WC.ret ?_
 refine WQ.drop ?_
 exact WQ.returnsF h [] rfl (results1 rfl rfl) (IM.le.refl _) ⟨⟨g21, 0, none⟩, rfl, rfl⟩

noncomputable def f_fault_Again (a0 : GErr) : Option GErr :=
  ((f_errors_As_fault a0 (⟨(⟨#[]⟩ : ByteArray), (0 : Int), GErr.nil⟩ : T_api_Fault)).bind fun (r22, r23, r24, r25) => (if (!r22) = true then (some a0) else (some r25)))
def f_fault_Again_post (a0 : GErr) : GErr → Value → IM → HL → Prop :=
  fun (r0 : GErr) (v : Value) (M' : IM) (H' : HL) => (GV r0) = v ∧ H' = []
set_option maxHeartbeats 8000000 in
set_option maxRecDepth 100000 in
theorem f_fault_Again_ok (a0 : GErr) (M : IM) (hE : Env M) (res : GErr) (h : f_fault_Again a0 = some res) :
    Tri Tryd.prog 15 #[(GV a0)] M [] (f_fault_Again_post a0 res) := by
 unfold f_fault_Again at h
 refine Tri.enter (fn := Tryd.f15) Tryd.func15 rfl (Nat.le_of_ble_eq_true rfl) ?_
 intro F ρ hρ
 refine Sr ?_
 refine Pa (GV GErr.nil) rfl rfl ?_
 refine Ns ?_
 refine WL.eff (EO.alloc ze65 rfl) rfl ?_
 rintro _ _ _ - ⟨rfl, g21, rfl, rfl⟩
 refine Nt ?_
 refine WC.seq ?_
 refine Sr ?_
 refine Pm (GV a0) (hρ 0) rfl ?_
 refine Pu (.iface 67 (.pointer (some ⟨g21, 0, none⟩))) (PO.makeInterface cc67 rfl) rfl ?_
 obtain ⟨⟨r22, r23, r24, r25⟩, hr26, h⟩ := bnd h
 refine WL.eff (EO.call1 co33 (f_errors_As_fault_ok a0 (⟨(⟨#[]⟩ : ByteArray), (0 : Int), GErr.nil⟩ : T_api_Fault) _ _ hE (r22, r23, r24, r25) hr26) (args2 rfl rfl)) rfl ?_
 rintro _ M27 _ hle28 ⟨_, ⟨rfl, rfl⟩, rfl⟩
 have hE := hE.mono hle28
 refine WL.a1 ?_
 refine Pu (.bool (!r22)) (PO.not rfl) rfl ?_
 refine Nt ?_
 refine WC.cond (b := !r22) rfl (fun hb30 => ?_) (fun hb30 => ?_)
 have h := ite_t hb30 h
 refine Sr ?_
 refine Pm (GV a0) (hρ 0) rfl ?_
 refine Pa (GV a0) rfl rfl ?_
 refine Nt ?_
 refine WC.ret ?_
 refine WQ.thenR ?_
 refine WQ.drop ?_
 exact WQ.returnsF h [] rfl (results1 rfl rfl) hle28 ⟨rfl, rfl⟩
 have h := ite_f hb30 h
 refine WC.skip ?_
 refine WQ.thenC ?_
 refine Sr ?_
 refine Pu (.pointer (some ⟨g21, 2, none⟩)) (PO.fieldAddr fo65_2 rfl rfl) rfl ?_
 refine Pu (GV r25) (PO.loadB 0 pl28 rfl rfl rfl) rfl ?_
 refine Pa (GV r25) rfl rfl ?_
 refine Nt ?_
 refine WC.ret ?_
 refine WQ.drop ?_
 exact WQ.returnsF h [] rfl (results1 rfl rfl) hle28 ⟨rfl, rfl⟩

noncomputable def f_law01_works : Option Bool :=
  ((f_fault_New (⟨#[114, 101, 97, 100]⟩ : ByteArray) (7 : Int) (4 : Int)).bind fun (r21 : GErr) => ((f_fault_Wrap (⟨#[111, 112, 101, 110]⟩ : ByteArray) (3 : Int) r21).bind fun (r26 : GErr) => ((f_fault_Where r26).bind fun (r31, r32) => ((((f_fault_Of r26).bind fun (r40 : Int) => (if (decide (r40 = (4 : Int))) = true then ((f_fault_Is r26 (4 : Int)).bind fun (r46 : Bool) => (if r46 = true then ((f_fault_Is r26 (7 : Int)).bind fun (r52 : Bool) => (if (!r52) = true then (if (decide (r31 = (3 : Int))) = true then (if r32 = true then ((f_fault_Path r26).bind fun (r60 : (List ByteArray)) => (if (decide ((r60.length : Int) = (2 : Int))) = true then ((f_fault_Under r26 (⟨#[114, 101, 97, 100]⟩ : ByteArray)).bind fun (r66 : Bool) => (if r66 = true then ((f_fault_Of GErr.nil).bind fun (r72 : Int) => (if (decide (r72 = (0 : Int))) = true then ((f_errors_New (⟨#[120]⟩ : ByteArray)).bind fun _ => (anyA fun (g81 : Addr) => ((f_fault_Of (GErr.other g81)).bind fun (r82 : Int) => (if (decide (r82 = (21 : Int))) = true then ((f_fault_Wrap (⟨#[111, 112, 101, 110]⟩ : ByteArray) (3 : Int) GErr.nil).bind fun (r88 : GErr) => (if r88.isNil = true then ((f_fault_Again r26).bind fun (r94 : GErr) => ((f_fault_Path r94).bind fun (r99 : (List ByteArray)) => (some (decide ((r99.length : Int) = (1 : Int)))))) else (some false))) else (some false))))) else (some false))) else (some false))) else (some false))) else (some false)) else (some false)) else (some false))) else (some false))) else (some false))) : Option Bool).bind fun (x38 : Bool) => (some x38)))))
def f_law01_works_post : Bool → Value → IM → HL → Prop :=
  fun (r0 : Bool) (v : Value) (M' : IM) (H' : HL) => (.bool r0) = v ∧ H' = []
set_option maxHeartbeats 8000000 in
set_option maxRecDepth 100000 in
theorem f_law01_works_ok (M : IM) (hE : Env M) (res : Bool) (h : f_law01_works = some res) :
    Tri Tryd.prog 7 #[] M [] (f_law01_works_post res) := by
 unfold f_law01_works at h
 refine Tri.enter (fn := Tryd.f7) Tryd.func7 rfl (Nat.le_of_ble_eq_true rfl) ?_
 intro F ρ hρ
 refine Sr ?_
 refine Pa (.bool false) rfl rfl ?_
 refine Ns ?_
 obtain ⟨r21, hr22, h⟩ := bnd h
 refine WL.eff (EO.call0 co29 (f_fault_New_ok (⟨#[114, 101, 97, 100]⟩ : ByteArray) (7 : Int) (4 : Int) _ r21 hr22) (args3 rfl rfl rfl)) rfl ?_
 rintro _ M23 _ hle24 ⟨_, ⟨rfl, rfl⟩, rfl⟩
 have hE := hE.mono hle24
 refine WL.a0 ?_
 obtain ⟨r26, hr27, h⟩ := bnd h
 refine WL.eff (EO.call0 co9 (f_fault_Wrap_ok (⟨#[111, 112, 101, 110]⟩ : ByteArray) (3 : Int) r21 _ r26 hr27) (args3 rfl rfl rfl)) rfl ?_
 rintro _ M28 _ hle29 ⟨_, ⟨rfl, rfl⟩, rfl⟩
 have hE := hE.mono hle29
 refine WL.a0 ?_
 refine Pa (GV r26) rfl rfl ?_
 refine Ns ?_
 refine Pm (GV r26) rfl rfl ?_
 obtain ⟨⟨r31, r32⟩, hr33, h⟩ := bnd h
 refine WL.eff (EO.call0 co10 (f_fault_Where_ok r26 _ hE (r31, r32) hr33) (args1 rfl)) rfl ?_
 rintro _ M34 _ hle35 ⟨_, ⟨rfl, rfl⟩, rfl⟩
 have hE := hE.mono hle35
 refine WL.a0 ?_
 refine Pm (.tuple #[(.int .i64 r31), (.bool r32)]) rfl rfl ?_
 refine Pu (.int .i64 r31) (PO.extract rfl rfl) rfl ?_
 refine Pu (.bool r32) (PO.extract rfl rfl) rfl ?_
 refine Pa (.int .i64 r31) rfl rfl ?_
 refine Pa (.bool r32) rfl rfl ?_
 refine Nt ?_
 obtain ⟨x38, hj39, h⟩ := bnd h
 refine WC.joinF (fun (x38 : Bool) ρ' M' H' => M34.le M' ∧ F = H' ∧ ρ' 0 = (.bool x38)) x38 ?_ ?_
 have h339 := h
 have h := hj39
 refine WC.region ?_
 refine Pm (GV r26) rfl rfl ?_
 obtain ⟨r40, hr41, h⟩ := bnd h
 refine WL.eff (EO.call0 co12 (f_fault_Of_ok r26 _ hE r40 hr41) (args1 rfl)) rfl ?_
 rintro _ M42 _ hle43 ⟨_, ⟨rfl, rfl⟩, rfl⟩
 have hE := hE.mono hle43
 refine WL.a0 ?_
 refine Pu (.bool (decide (r40 = (4 : Int)))) (PO.eql rfl rfl) rfl ?_
 refine Pm (.bool (decide (r40 = (4 : Int)))) rfl rfl ?_
 rcases Bool.eq_false_or_eq_true (decide (r40 = (4 : Int))) with hb45 | hb45
 have h := ite_t hb45 h
 refine On 14 rfl rfl hb45 ?_
 refine Pm (GV r26) rfl rfl ?_
 refine On 14 rfl rfl hb45 ?_
 obtain ⟨r46, hr47, h⟩ := bnd h
 refine WL.eff (EO.call0 co30 (f_fault_Is_ok r26 (4 : Int) _ r46 hr47) (args2 rfl rfl)) rfl ?_
 rintro _ M48 _ hle49 ⟨_, ⟨rfl, rfl⟩, rfl⟩
 have hE := hE.mono hle49
 refine WL.a0 ?_
 refine Pu (.bool r46) (PO.pickT rfl hb45 rfl) rfl ?_
 refine Pm (.bool r46) rfl rfl ?_
 rcases Bool.eq_false_or_eq_true (r46) with hb51 | hb51
 have h := ite_t hb51 h
 refine On 18 rfl rfl hb51 ?_
 refine Pm (GV r26) rfl rfl ?_
 refine On 18 rfl rfl hb51 ?_
 obtain ⟨r52, hr53, h⟩ := bnd h
 refine WL.eff (EO.call0 co30 (f_fault_Is_ok r26 (7 : Int) _ r52 hr53) (args2 rfl rfl)) rfl ?_
 rintro _ M54 _ hle55 ⟨_, ⟨rfl, rfl⟩, rfl⟩
 have hE := hE.mono hle55
 refine WL.a0 ?_
 refine On 18 rfl rfl hb51 ?_
 refine Pu (.bool (!r52)) (PO.not rfl) rfl ?_
 refine Pu (.bool (!r52)) (PO.pickT rfl hb51 rfl) rfl ?_
 refine Pm (.bool (!r52)) rfl rfl ?_
 rcases Bool.eq_false_or_eq_true (!r52) with hb57 | hb57
 have h := ite_t hb57 h
 refine On 23 rfl rfl hb57 ?_
 refine Pm (.int .i64 r31) rfl rfl ?_
 refine On 23 rfl rfl hb57 ?_
 refine Pu (.bool (decide (r31 = (3 : Int)))) (PO.eql rfl rfl) rfl ?_
 refine Pu (.bool (decide (r31 = (3 : Int)))) (PO.pickT rfl hb57 rfl) rfl ?_
 refine Pm (.bool (decide (r31 = (3 : Int)))) rfl rfl ?_
 rcases Bool.eq_false_or_eq_true (decide (r31 = (3 : Int))) with hb58 | hb58
 have h := ite_t hb58 h
 refine On 27 rfl rfl hb58 ?_
 refine Pm (.bool r32) rfl rfl ?_
 refine Pu (.bool r32) (PO.pickT rfl hb58 rfl) rfl ?_
 refine Pm (.bool r32) rfl rfl ?_
 rcases Bool.eq_false_or_eq_true (r32) with hb59 | hb59
 have h := ite_t hb59 h
 refine On 30 rfl rfl hb59 ?_
 refine Pm (GV r26) rfl rfl ?_
 refine On 30 rfl rfl hb59 ?_
 obtain ⟨r60, hr61, h⟩ := bnd h
 refine WL.eff (EO.call0 co11 (f_fault_Path_ok r26 _ hE r60 hr61) (args1 rfl)) rfl ?_
 rintro _ M62 _ hle63 ⟨_, ⟨vq64, cq64, rfl, rfl, hq64⟩, rfl⟩
 have hE := hE.mono hle63
 refine WL.a1 ?_
 refine On 30 rfl rfl hb59 ?_
 refine Pu (.int .i64 (r60.length : Int)) (PO.lenS Tryd.underlying33 rfl hq64.len) rfl ?_
 refine On 30 rfl rfl hb59 ?_
 refine Pu (.bool (decide ((r60.length : Int) = (2 : Int)))) (PO.eql rfl rfl) rfl ?_
 refine Pu (.bool (decide ((r60.length : Int) = (2 : Int)))) (PO.pickT rfl hb59 rfl) rfl ?_
 refine Pm (.bool (decide ((r60.length : Int) = (2 : Int)))) rfl rfl ?_
 rcases Bool.eq_false_or_eq_true (decide ((r60.length : Int) = (2 : Int))) with hb65 | hb65
 have h := ite_t hb65 h
 refine On 36 rfl rfl hb65 ?_
 refine Pm (GV r26) rfl rfl ?_
 refine On 36 rfl rfl hb65 ?_
 obtain ⟨r66, hr67, h⟩ := bnd h
 refine WL.eff (EO.call0 co31 (f_fault_Under_ok r26 (⟨#[114, 101, 97, 100]⟩ : ByteArray) _ hE r66 hr67) (args2 rfl rfl)) rfl ?_
 rintro _ M68 _ hle69 ⟨_, ⟨rfl, rfl⟩, rfl⟩
 have hq64 := hq64.mono hle69
 have hE := hE.mono hle69
 refine WL.a0 ?_
 refine Pu (.bool r66) (PO.pickT rfl hb65 rfl) rfl ?_
 refine Pm (.bool r66) rfl rfl ?_
 rcases Bool.eq_false_or_eq_true (r66) with hb71 | hb71
 have h := ite_t hb71 h
 refine On 40 rfl rfl hb71 ?_
 obtain ⟨r72, hr73, h⟩ := bnd h
 refine WL.eff (EO.call0 co12 (f_fault_Of_ok GErr.nil _ hE r72 hr73) (args1 rfl)) rfl ?_
 rintro _ M74 _ hle75 ⟨_, ⟨rfl, rfl⟩, rfl⟩
 have hq64 := hq64.mono hle75
 have hE := hE.mono hle75
 refine WL.a0 ?_
 refine On 40 rfl rfl hb71 ?_
 refine Pu (.bool (decide (r72 = (0 : Int)))) (PO.eql rfl rfl) rfl ?_
 refine Pu (.bool (decide (r72 = (0 : Int)))) (PO.pickT rfl hb71 rfl) rfl ?_
 refine Pm (.bool (decide (r72 = (0 : Int)))) rfl rfl ?_
 rcases Bool.eq_false_or_eq_true (decide (r72 = (0 : Int))) with hb77 | hb77
 have h := ite_t hb77 h
 refine On 44 rfl rfl hb77 ?_
 obtain ⟨_, hr78, h⟩ := bnd h
 refine WL.eff (EO.call0 co32 (f_errors_New_ok (⟨#[120]⟩ : ByteArray) _ () hr78) (args1 rfl)) rfl ?_
 rintro _ M79 _ hle80 ⟨_, ⟨g81, rfl, rfl⟩, rfl⟩
 have hq64 := hq64.mono hle80
 have hE := hE.mono hle80
 have h := anyA_at h g81
 refine WL.a0 ?_
 refine On 44 rfl rfl hb77 ?_
 obtain ⟨r82, hr83, h⟩ := bnd h
 refine WL.eff (EO.call0 co12 (f_fault_Of_ok (GErr.other g81) _ hE r82 hr83) (args1 rfl)) rfl ?_
 rintro _ M84 _ hle85 ⟨_, ⟨rfl, rfl⟩, rfl⟩
 have hq64 := hq64.mono hle85
 have hE := hE.mono hle85
 refine WL.a0 ?_
 refine On 44 rfl rfl hb77 ?_
 refine Pu (.bool (decide (r82 = (21 : Int)))) (PO.eql rfl rfl) rfl ?_
 refine Pu (.bool (decide (r82 = (21 : Int)))) (PO.pickT rfl hb77 rfl) rfl ?_
 refine Pm (.bool (decide (r82 = (21 : Int)))) rfl rfl ?_
 rcases Bool.eq_false_or_eq_true (decide (r82 = (21 : Int))) with hb87 | hb87
 have h := ite_t hb87 h
 refine On 49 rfl rfl hb87 ?_
 obtain ⟨r88, hr89, h⟩ := bnd h
 refine WL.eff (EO.call0 co9 (f_fault_Wrap_ok (⟨#[111, 112, 101, 110]⟩ : ByteArray) (3 : Int) GErr.nil _ r88 hr89) (args3 rfl rfl rfl)) rfl ?_
 rintro _ M90 _ hle91 ⟨_, ⟨rfl, rfl⟩, rfl⟩
 have hq64 := hq64.mono hle91
 have hE := hE.mono hle91
 refine WL.a0 ?_
 refine On 49 rfl rfl hb87 ?_
 refine Pu (.bool r88.isNil) (PO.errNil Tryd.underlying28 rfl) rfl ?_
 refine Pu (.bool r88.isNil) (PO.pickT rfl hb87 rfl) rfl ?_
 refine Pm (.bool r88.isNil) rfl rfl ?_
 rcases Bool.eq_false_or_eq_true (r88.isNil) with hb93 | hb93
 have h := ite_t hb93 h
 refine On 53 rfl rfl hb93 ?_
 refine Pm (GV r26) rfl rfl ?_
 refine On 53 rfl rfl hb93 ?_
 obtain ⟨r94, hr95, h⟩ := bnd h
 refine WL.eff (EO.call0 co15 (f_fault_Again_ok r26 _ hE r94 hr95) (args1 rfl)) rfl ?_
 rintro _ M96 _ hle97 ⟨_, ⟨rfl, rfl⟩, rfl⟩
 have hq64 := hq64.mono hle97
 have hE := hE.mono hle97
 refine WL.a0 ?_
 refine On 53 rfl rfl hb93 ?_
 obtain ⟨r99, hr100, h⟩ := bnd h
 refine WL.eff (EO.call0 co11 (f_fault_Path_ok r94 _ hE r99 hr100) (args1 rfl)) rfl ?_
 rintro _ M101 _ hle102 ⟨_, ⟨vq103, cq103, rfl, rfl, hq103⟩, rfl⟩
 have hq64 := hq64.mono hle102
 have hE := hE.mono hle102
 refine WL.a1 ?_
 refine On 53 rfl rfl hb93 ?_
 refine Pu (.int .i64 (r99.length : Int)) (PO.lenS Tryd.underlying33 rfl hq103.len) rfl ?_
 refine On 53 rfl rfl hb93 ?_
 refine Pu (.bool (decide ((r99.length : Int) = (1 : Int)))) (PO.eql rfl rfl) rfl ?_
 refine Pu (.bool (decide ((r99.length : Int) = (1 : Int)))) (PO.pickT rfl hb93 rfl) rfl ?_
 refine Pa (.bool (decide ((r99.length : Int) = (1 : Int)))) rfl rfl ?_
 refine WL.nil ?_
 refine WQ.drop ?_
 refine WQ.drop ?_
 obtain rfl := Option.some.inj h
 refine WQ.thenJ ?_
 exact ⟨((((((((((hle43.trans hle49).trans hle55).trans hle63).trans hle69).trans hle75).trans hle80).trans hle85).trans hle91).trans hle97).trans hle102), rfl, rfl⟩
 have h := ite_f hb93 h
 iterate 5 refine Of 53 rfl rfl hb93 rfl ?_
 refine Pu (.bool false) (PO.pickF rfl hb93 rfl) rfl ?_
 refine Pa (.bool false) rfl rfl ?_
 refine WL.nil ?_
 refine WQ.drop ?_
 obtain rfl := Option.some.inj h
 refine WQ.thenJ ?_
 exact ⟨((((((((hle43.trans hle49).trans hle55).trans hle63).trans hle69).trans hle75).trans hle80).trans hle85).trans hle91), rfl, rfl⟩
 have h := ite_f hb87 h
 iterate 2 refine Of 49 rfl rfl hb87 rfl ?_
 refine Pu (.bool false) (PO.pickF rfl hb87 rfl) rfl ?_
 refine Pm (.bool false) rfl rfl ?_
 iterate 5 refine Of 53 rfl rfl rfl rfl ?_
 refine Pu (.bool false) (PO.pickF rfl rfl rfl) rfl ?_
 refine Pa (.bool false) rfl rfl ?_
 refine WL.nil ?_
 refine WQ.drop ?_
 obtain rfl := Option.some.inj h
 refine WQ.thenJ ?_
 exact ⟨(((((((hle43.trans hle49).trans hle55).trans hle63).trans hle69).trans hle75).trans hle80).trans hle85), rfl, rfl⟩
 have h := ite_f hb77 h
 iterate 3 refine Of 44 rfl rfl hb77 rfl ?_
 refine Pu (.bool false) (PO.pickF rfl hb77 rfl) rfl ?_
 refine Pm (.bool false) rfl rfl ?_
 iterate 2 refine Of 49 rfl rfl rfl rfl ?_
 refine Pu (.bool false) (PO.pickF rfl rfl rfl) rfl ?_
 refine Pm (.bool false) rfl rfl ?_
 iterate 5 refine Of 53 rfl rfl rfl rfl ?_
 refine Pu (.bool false) (PO.pickF rfl rfl rfl) rfl ?_
 refine Pa (.bool false) rfl rfl ?_
 refine WL.nil ?_
 refine WQ.drop ?_
 obtain rfl := Option.some.inj h
 refine WQ.thenJ ?_
 exact ⟨(((((hle43.trans hle49).trans hle55).trans hle63).trans hle69).trans hle75), rfl, rfl⟩
 have h := ite_f hb71 h
 iterate 2 refine Of 40 rfl rfl hb71 rfl ?_
 refine Pu (.bool false) (PO.pickF rfl hb71 rfl) rfl ?_
 refine Pm (.bool false) rfl rfl ?_
 iterate 3 refine Of 44 rfl rfl rfl rfl ?_
 refine Pu (.bool false) (PO.pickF rfl rfl rfl) rfl ?_
 refine Pm (.bool false) rfl rfl ?_
 iterate 2 refine Of 49 rfl rfl rfl rfl ?_
 refine Pu (.bool false) (PO.pickF rfl rfl rfl) rfl ?_
 refine Pm (.bool false) rfl rfl ?_
 iterate 5 refine Of 53 rfl rfl rfl rfl ?_
 refine Pu (.bool false) (PO.pickF rfl rfl rfl) rfl ?_
 refine Pa (.bool false) rfl rfl ?_
 refine WL.nil ?_
 refine WQ.drop ?_
 obtain rfl := Option.some.inj h
 refine WQ.thenJ ?_
 exact ⟨((((hle43.trans hle49).trans hle55).trans hle63).trans hle69), rfl, rfl⟩
 have h := ite_f hb65 h
 iterate 2 refine Of 36 rfl rfl hb65 rfl ?_
 refine Pu (.bool false) (PO.pickF rfl hb65 rfl) rfl ?_
 refine Pm (.bool false) rfl rfl ?_
 iterate 2 refine Of 40 rfl rfl rfl rfl ?_
 refine Pu (.bool false) (PO.pickF rfl rfl rfl) rfl ?_
 refine Pm (.bool false) rfl rfl ?_
 iterate 3 refine Of 44 rfl rfl rfl rfl ?_
 refine Pu (.bool false) (PO.pickF rfl rfl rfl) rfl ?_
 refine Pm (.bool false) rfl rfl ?_
 iterate 2 refine Of 49 rfl rfl rfl rfl ?_
 refine Pu (.bool false) (PO.pickF rfl rfl rfl) rfl ?_
 refine Pm (.bool false) rfl rfl ?_
 iterate 5 refine Of 53 rfl rfl rfl rfl ?_
 refine Pu (.bool false) (PO.pickF rfl rfl rfl) rfl ?_
 refine Pa (.bool false) rfl rfl ?_
 refine WL.nil ?_
 refine WQ.drop ?_
 obtain rfl := Option.some.inj h
 refine WQ.thenJ ?_
 exact ⟨(((hle43.trans hle49).trans hle55).trans hle63), rfl, rfl⟩
 have h := ite_f hb59 h
 iterate 4 refine Of 30 rfl rfl hb59 rfl ?_
 refine Pu (.bool false) (PO.pickF rfl hb59 rfl) rfl ?_
 refine Pm (.bool false) rfl rfl ?_
 iterate 2 refine Of 36 rfl rfl rfl rfl ?_
 refine Pu (.bool false) (PO.pickF rfl rfl rfl) rfl ?_
 refine Pm (.bool false) rfl rfl ?_
 iterate 2 refine Of 40 rfl rfl rfl rfl ?_
 refine Pu (.bool false) (PO.pickF rfl rfl rfl) rfl ?_
 refine Pm (.bool false) rfl rfl ?_
 iterate 3 refine Of 44 rfl rfl rfl rfl ?_
 refine Pu (.bool false) (PO.pickF rfl rfl rfl) rfl ?_
 refine Pm (.bool false) rfl rfl ?_
 iterate 2 refine Of 49 rfl rfl rfl rfl ?_
 refine Pu (.bool false) (PO.pickF rfl rfl rfl) rfl ?_
 refine Pm (.bool false) rfl rfl ?_
 iterate 5 refine Of 53 rfl rfl rfl rfl ?_
 refine Pu (.bool false) (PO.pickF rfl rfl rfl) rfl ?_
 refine Pa (.bool false) rfl rfl ?_
 refine WL.nil ?_
 obtain rfl := Option.some.inj h
 refine WQ.thenJ ?_
 exact ⟨((hle43.trans hle49).trans hle55), rfl, rfl⟩
 have h := ite_f hb58 h
 refine Of 27 rfl rfl hb58 rfl ?_
 refine Pu (.bool false) (PO.pickF rfl hb58 rfl) rfl ?_
 refine Pm (.bool false) rfl rfl ?_
 iterate 4 refine Of 30 rfl rfl rfl rfl ?_
 refine Pu (.bool false) (PO.pickF rfl rfl rfl) rfl ?_
 refine Pm (.bool false) rfl rfl ?_
 iterate 2 refine Of 36 rfl rfl rfl rfl ?_
 refine Pu (.bool false) (PO.pickF rfl rfl rfl) rfl ?_
 refine Pm (.bool false) rfl rfl ?_
 iterate 2 refine Of 40 rfl rfl rfl rfl ?_
 refine Pu (.bool false) (PO.pickF rfl rfl rfl) rfl ?_
 refine Pm (.bool false) rfl rfl ?_
 iterate 3 refine Of 44 rfl rfl rfl rfl ?_
 refine Pu (.bool false) (PO.pickF rfl rfl rfl) rfl ?_
 refine Pm (.bool false) rfl rfl ?_
 iterate 2 refine Of 49 rfl rfl rfl rfl ?_
 refine Pu (.bool false) (PO.pickF rfl rfl rfl) rfl ?_
 refine Pm (.bool false) rfl rfl ?_
 iterate 5 refine Of 53 rfl rfl rfl rfl ?_
 refine Pu (.bool false) (PO.pickF rfl rfl rfl) rfl ?_
 refine Pa (.bool false) rfl rfl ?_
 refine WL.nil ?_
 obtain rfl := Option.some.inj h
 refine WQ.thenJ ?_
 exact ⟨((hle43.trans hle49).trans hle55), rfl, rfl⟩
 have h := ite_f hb57 h
 iterate 2 refine Of 23 rfl rfl hb57 rfl ?_
 refine Pu (.bool false) (PO.pickF rfl hb57 rfl) rfl ?_
 refine Pm (.bool false) rfl rfl ?_
 refine Of 27 rfl rfl rfl rfl ?_
 refine Pu (.bool false) (PO.pickF rfl rfl rfl) rfl ?_
 refine Pm (.bool false) rfl rfl ?_
 iterate 4 refine Of 30 rfl rfl rfl rfl ?_
 refine Pu (.bool false) (PO.pickF rfl rfl rfl) rfl ?_
 refine Pm (.bool false) rfl rfl ?_
 iterate 2 refine Of 36 rfl rfl rfl rfl ?_
 refine Pu (.bool false) (PO.pickF rfl rfl rfl) rfl ?_
 refine Pm (.bool false) rfl rfl ?_
 iterate 2 refine Of 40 rfl rfl rfl rfl ?_
 refine Pu (.bool false) (PO.pickF rfl rfl rfl) rfl ?_
 refine Pm (.bool false) rfl rfl ?_
 iterate 3 refine Of 44 rfl rfl rfl rfl ?_
 refine Pu (.bool false) (PO.pickF rfl rfl rfl) rfl ?_
 refine Pm (.bool false) rfl rfl ?_
 iterate 2 refine Of 49 rfl rfl rfl rfl ?_
 refine Pu (.bool false) (PO.pickF rfl rfl rfl) rfl ?_
 refine Pm (.bool false) rfl rfl ?_
 iterate 5 refine Of 53 rfl rfl rfl rfl ?_
 refine Pu (.bool false) (PO.pickF rfl rfl rfl) rfl ?_
 refine Pa (.bool false) rfl rfl ?_
 refine WL.nil ?_
 obtain rfl := Option.some.inj h
 refine WQ.thenJ ?_
 exact ⟨((hle43.trans hle49).trans hle55), rfl, rfl⟩
 have h := ite_f hb51 h
 iterate 3 refine Of 18 rfl rfl hb51 rfl ?_
 refine Pu (.bool false) (PO.pickF rfl hb51 rfl) rfl ?_
 refine Pm (.bool false) rfl rfl ?_
 iterate 2 refine Of 23 rfl rfl rfl rfl ?_
 refine Pu (.bool false) (PO.pickF rfl rfl rfl) rfl ?_
 refine Pm (.bool false) rfl rfl ?_
 refine Of 27 rfl rfl rfl rfl ?_
 refine Pu (.bool false) (PO.pickF rfl rfl rfl) rfl ?_
 refine Pm (.bool false) rfl rfl ?_
 iterate 4 refine Of 30 rfl rfl rfl rfl ?_
 refine Pu (.bool false) (PO.pickF rfl rfl rfl) rfl ?_
 refine Pm (.bool false) rfl rfl ?_
 iterate 2 refine Of 36 rfl rfl rfl rfl ?_
 refine Pu (.bool false) (PO.pickF rfl rfl rfl) rfl ?_
 refine Pm (.bool false) rfl rfl ?_
 iterate 2 refine Of 40 rfl rfl rfl rfl ?_
 refine Pu (.bool false) (PO.pickF rfl rfl rfl) rfl ?_
 refine Pm (.bool false) rfl rfl ?_
 iterate 3 refine Of 44 rfl rfl rfl rfl ?_
 refine Pu (.bool false) (PO.pickF rfl rfl rfl) rfl ?_
 refine Pm (.bool false) rfl rfl ?_
 iterate 2 refine Of 49 rfl rfl rfl rfl ?_
 refine Pu (.bool false) (PO.pickF rfl rfl rfl) rfl ?_
 refine Pm (.bool false) rfl rfl ?_
 iterate 5 refine Of 53 rfl rfl rfl rfl ?_
 refine Pu (.bool false) (PO.pickF rfl rfl rfl) rfl ?_
 refine Pa (.bool false) rfl rfl ?_
 refine WL.nil ?_
 obtain rfl := Option.some.inj h
 refine WQ.thenJ ?_
 exact ⟨(hle43.trans hle49), rfl, rfl⟩
 have h := ite_f hb45 h
 iterate 2 refine Of 14 rfl rfl hb45 rfl ?_
 refine Pu (.bool false) (PO.pickF rfl hb45 rfl) rfl ?_
 refine Pm (.bool false) rfl rfl ?_
 iterate 3 refine Of 18 rfl rfl rfl rfl ?_
 refine Pu (.bool false) (PO.pickF rfl rfl rfl) rfl ?_
 refine Pm (.bool false) rfl rfl ?_
 iterate 2 refine Of 23 rfl rfl rfl rfl ?_
 refine Pu (.bool false) (PO.pickF rfl rfl rfl) rfl ?_
 refine Pm (.bool false) rfl rfl ?_
 refine Of 27 rfl rfl rfl rfl ?_
 refine Pu (.bool false) (PO.pickF rfl rfl rfl) rfl ?_
 refine Pm (.bool false) rfl rfl ?_
 iterate 4 refine Of 30 rfl rfl rfl rfl ?_
 refine Pu (.bool false) (PO.pickF rfl rfl rfl) rfl ?_
 refine Pm (.bool false) rfl rfl ?_
 iterate 2 refine Of 36 rfl rfl rfl rfl ?_
 refine Pu (.bool false) (PO.pickF rfl rfl rfl) rfl ?_
 refine Pm (.bool false) rfl rfl ?_
 iterate 2 refine Of 40 rfl rfl rfl rfl ?_
 refine Pu (.bool false) (PO.pickF rfl rfl rfl) rfl ?_
 refine Pm (.bool false) rfl rfl ?_
 iterate 3 refine Of 44 rfl rfl rfl rfl ?_
 refine Pu (.bool false) (PO.pickF rfl rfl rfl) rfl ?_
 refine Pm (.bool false) rfl rfl ?_
 iterate 2 refine Of 49 rfl rfl rfl rfl ?_
 refine Pu (.bool false) (PO.pickF rfl rfl rfl) rfl ?_
 refine Pm (.bool false) rfl rfl ?_
 iterate 5 refine Of 53 rfl rfl rfl rfl ?_
 refine Pu (.bool false) (PO.pickF rfl rfl rfl) rfl ?_
 refine Pa (.bool false) rfl rfl ?_
 refine WL.nil ?_
 obtain rfl := Option.some.inj h
 refine WQ.thenJ ?_
 exact ⟨hle43, rfl, rfl⟩
 rintro ρ39 M39 H39 ⟨hle39, rfl, hs39_0⟩
 have hE := hE.mono hle39
 refine WC.ret ?_
 exact WQ.returnsF h [] rfl (results1 rfl hs39_0) (((hle24.trans hle29).trans hle35).trans hle39) ⟨rfl, rfl⟩

noncomputable def f_law01_made_l0 (a0 : T_ref01_Chain) (s_ : (GErr × Int)) : Option ((GErr × Int) ⊕ GErr) :=
  match s_ with
  | (x31, x32) =>
    (if (decide ((0 : Int) ≤ x32)) = true then (grd (0 ≤ x32 ∧ x32 < a0.Steps.length) (grd (0 ≤ x32 ∧ x32 < a0.Steps.length) ((f_fault_Wrap ((rd a0.Steps x32).Op) ((rd a0.Steps x32).At) x31).bind fun (r49 : GErr) => (some (Sum.inl (r49, IntKind.i64.wrap (x32 - (1 : Int)))))))) else (some (Sum.inr x31)))
noncomputable def f_law01_made_l1 (a0 : T_ref01_Chain) (s_ : (GErr × Int)) : Option ((GErr × Int) ⊕ GErr) :=
  match s_ with
  | (x77, x78) =>
    (if (decide ((0 : Int) ≤ x78)) = true then (grd (0 ≤ x78 ∧ x78 < a0.Steps.length) (grd (0 ≤ x78 ∧ x78 < a0.Steps.length) ((f_fault_Wrap ((rd a0.Steps x78).Op) ((rd a0.Steps x78).At) x77).bind fun (r95 : GErr) => (some (Sum.inl (r95, IntKind.i64.wrap (x78 - (1 : Int)))))))) else (some (Sum.inr x77)))
noncomputable def f_law01_made (a0 : T_ref01_Chain) : Option GErr :=
  (if (decide (a0.Code = (0 : Int))) = true then (some (GErr.erase GErr.nil)) else (if (decide (a0.Code < (0 : Int))) = true then ((f_errors_New (⟨#[115, 111, 109, 101, 116, 104, 105, 110, 103, 32, 101, 108, 115, 101]⟩ : ByteArray)).bind fun _ => (anyA fun (g27 : Addr) => ((((iter (f_law01_made_l0 a0) ((GErr.other g27), IntKind.i64.wrap ((a0.Steps.length : Int) - (1 : Int)))).bind (fun (x33 : GErr) => (some x33))) : Option GErr).bind fun (x28 : GErr) => (some (GErr.erase x28))))) else (if (decide ((0 : Int) < (a0.Steps.length : Int))) = true then (grd (0 ≤ IntKind.i64.wrap ((a0.Steps.length : Int) - (1 : Int)) ∧ IntKind.i64.wrap ((a0.Steps.length : Int) - (1 : Int)) < a0.Steps.length) (grd (0 ≤ IntKind.i64.wrap ((a0.Steps.length : Int) - (1 : Int)) ∧ IntKind.i64.wrap ((a0.Steps.length : Int) - (1 : Int)) < a0.Steps.length) ((f_fault_New ((rd a0.Steps (IntKind.i64.wrap ((a0.Steps.length : Int) - (1 : Int)))).Op) ((rd a0.Steps (IntKind.i64.wrap ((a0.Steps.length : Int) - (1 : Int)))).At) a0.Code).bind fun (r69 : GErr) => ((((iter (f_law01_made_l1 a0) (r69, IntKind.i64.wrap ((IntKind.i64.wrap ((a0.Steps.length : Int) - (1 : Int))) - (1 : Int)))).bind (fun (x79 : GErr) => (some x79))) : Option GErr).bind fun (x74 : GErr) => (some (GErr.erase x74)))))) else (some (GErr.erase (GErr.code a0.Code))))))
def f_law01_made_post (a0 : T_ref01_Chain) (v0_0 : Value) : GErr → Value → IM → HL → Prop :=
  fun (r0 : GErr) (v : Value) (M' : IM) (H' : HL) => ∃ e_, (GV e_) = v ∧ H' = [] ∧ GErr.erase e_ = r0
set_option maxHeartbeats 8000000 in
set_option maxRecDepth 100000 in
theorem f_law01_made_ok (a0 : T_ref01_Chain) (M : IM) (v0_0 : Value) (h0_0 : RS kd_ref01_Step M v0_0 a0.Steps) (res : GErr) (h : f_law01_made a0 = some res) :
    Tri Tryd.prog 8 #[(.agg #[v0_0, (.int .i64 a0.Code)])] M [] (f_law01_made_post a0 v0_0 res) := by
 unfold f_law01_made at h
 refine Tri.enter (fn := Tryd.f8) Tryd.func8 rfl (Nat.le_of_ble_eq_true rfl) ?_
 intro F ρ hρ
 refine Sr ?_
 refine WL.eff (EO.box (cs := #[v0_0, (.int .i64 a0.Code)]) (congrArg Value.cells (asE (.agg #[v0_0, (.int .i64 a0.Code)]) (hρ 0)))) rfl ?_
 rintro _ _ _ - ⟨rfl, g21, rfl, rfl⟩
 refine Pa (GV GErr.nil) rfl rfl ?_
 refine Nt ?_
 refine WC.seq ?_
 refine Sr ?_
 refine Pu (.pointer (some ⟨g21, 1, none⟩)) (PO.fieldAddr fo24_1 rfl rfl) rfl ?_
 refine Pu (.int .i64 a0.Code) (PO.loadB 0 pl3 rfl rfl rfl) rfl ?_
 refine Pu (.bool (decide (a0.Code = (0 : Int)))) (PO.eql rfl rfl) rfl ?_
 refine Nt ?_
 refine WC.cond (b := decide (a0.Code = (0 : Int))) rfl (fun hb22 => ?_) (fun hb22 => ?_)
 have h := ite_t hb22 h
 refine Sr ?_
 refine Pa (GV GErr.nil) rfl rfl ?_
 refine Nt ?_
 refine WC.ret ?_
 refine WQ.thenR ?_
 refine WQ.drop ?_
 exact WQ.returnsF h [] rfl (results1 rfl rfl) (IM.le.refl _) ⟨GErr.nil, rfl, rfl, rfl⟩
 have h := ite_f hb22 h
 refine WC.skip ?_
 refine WQ.thenC ?_
 refine Sr ?_
 refine Pu (.pointer (some ⟨g21, 0, none⟩)) (PO.fieldAddr fo24_0 rfl rfl) rfl ?_
 refine Pu v0_0 (PO.loadB 0 pl22 rfl rfl rfl) rfl ?_
 refine Pu (.int .i64 (a0.Steps.length : Int)) (PO.lenS Tryd.underlying22 rfl h0_0.len) rfl ?_
 refine Pa (.int .i64 (a0.Steps.length : Int)) rfl rfl ?_
 refine Ns ?_
 refine Pa (GV GErr.nil) rfl rfl ?_
 refine Nt ?_
 refine WC.seq ?_
 refine Sr ?_
 refine Pu (.pointer (some ⟨g21, 1, none⟩)) (PO.fieldAddr fo24_1 rfl rfl) rfl ?_
 refine Pu (.int .i64 a0.Code) (PO.loadB 0 pl3 rfl rfl rfl) rfl ?_
 refine Pu (.bool (decide (a0.Code < (0 : Int)))) (PO.lss rfl rfl) rfl ?_
 refine Nt ?_
 refine WC.cond (b := decide (a0.Code < (0 : Int))) rfl (fun hb23 => ?_) (fun hb23 => ?_)
 have h := ite_t hb23 h
 refine WC.region ?_
 obtain ⟨_, hr24, h⟩ := bnd h
 refine WL.eff (EO.call0 co32 (f_errors_New_ok (⟨#[115, 111, 109, 101, 116, 104, 105, 110, 103, 32, 101, 108, 115, 101]⟩ : ByteArray) _ () hr24) (args1 rfl)) rfl ?_
 rintro _ M25 _ hle26 ⟨_, ⟨g27, rfl, rfl⟩, rfl⟩
 have h0_0 := h0_0.mono hle26
 have h := anyA_at h g27
 refine WL.a0 ?_
 refine Pa (GV (GErr.other g27)) rfl rfl ?_
 refine Nt ?_
 obtain ⟨x28, hj29, h⟩ := bnd h
 refine WC.joinF (fun (x28 : GErr) ρ' M' H' => M25.le M' ∧ [(g21, .cells #[v0_0, (.int .i64 a0.Code)] 24 (0, 0))] :: F = H' ∧ ρ' 4 = (GV x28)) x28 ?_ ?_
 have h329 := h
 have h := hj29
 refine Sr ?_
 refine Pm (.int .i64 (a0.Steps.length : Int)) rfl rfl ?_
 refine Pu (.int .i64 (IntKind.i64.wrap ((a0.Steps.length : Int) - (1 : Int)))) (PO.sub rfl rfl) rfl ?_
 refine Pa (.int .i64 (IntKind.i64.wrap ((a0.Steps.length : Int) - (1 : Int)))) rfl rfl ?_
 refine Nt ?_
 refine WC.block ?_
 obtain ⟨e30, he30, hK30⟩ := bnd h
 clear h
 refine WC.loop he30 (fun (p_ : (GErr × Int)) ρ' M' H' => match p_ with | (x31, x32) => M25.le M' ∧ [(g21, .cells #[v0_0, (.int .i64 a0.Code)] 24 (0, 0))] :: F = H' ∧ ρ' 1 = (.pointer (some ⟨g21, 0, none⟩)) ∧ ρ' 4 = (GV x31) ∧ ρ' 5 = (.int .i64 x32)) ?_ ?_
 exact ⟨(IM.le.refl _), rfl, rfl, rfl, rfl⟩
 rintro ⟨x31, x32⟩ o30 ρ30 M30 H30 h ⟨hle30, rfl, hs30_1, hs30_4, hs30_5⟩
 unfold f_law01_made_l0 at h
 have h0_0 := h0_0.mono hle30
 refine WC.seq ?_
 refine Sr ?_
 refine Pm (.int .i64 x32) hs30_5 rfl ?_
 refine Pu (.bool (decide ((0 : Int) ≤ x32))) (PO.geq rfl rfl) rfl ?_
 refine Nt ?_
 refine WC.cond (b := decide ((0 : Int) ≤ x32)) rfl (fun hb34 => ?_) (fun hb34 => ?_)
 have h := ite_t hb34 h
 refine WC.skip ?_
 refine WQ.thenC ?_
 refine WC.seq ?_
 refine WC.block ?_
 refine WC.draw [0, 1, 0, 7, 15, 31, 0, 64, 0, 448, 960, 1984, 0, 8191, 16383] (.pure 0 (.pure 1 (.pure 2 (.pure 3 (.pure 4 (.pure 5 (.pure 6 (.pure 7 (.pure 8 (.pure 9 (.pure 10 (.pure 11 (.pure 12 (.alt 13 (.alt 14 .done .none) .none)))))))))))))) mixed (by kernel_rfl) ?_
 refine Tp (.pointer (some ⟨g21, 0, none⟩)) rfl (PO.fieldAddr fo24_0 hs30_1 rfl) rfl ?_
 refine Tp v0_0 rfl (PO.loadB 0 pl22 rfl rfl rfl) rfl ?_
 refine Tp (.int .i64 x32) rfl (PO.move hs30_5) rfl ?_
 obtain ⟨hg35, h⟩ := grd_i h
 obtain ⟨p36, cs37, hat38, hrc39, hhas40⟩ := h0_0.at hg35.1 hg35.2 (by decide)
 obtain rfl := kd_ref01_Step_open hrc39
 refine Tp (.pointer (some p36)) rfl (PO.indexAddr (n := a0.Steps.length) Tryd.underlying22 sz63 rfl rfl hg35.1 hg35.2 hat38) rfl ?_
 refine Tp (.pointer (some (p36.add 0))) rfl (PO.fieldAddr fo63_0 rfl rfl) rfl ?_
 refine Tp (.string ((rd a0.Steps x32).Op)) rfl (PO.loadM pl9 rfl (IM.has0 hhas40)) rfl ?_
 refine Tp (.pointer (some ⟨g21, 0, none⟩)) rfl (PO.fieldAddr fo24_0 hs30_1 rfl) rfl ?_
 refine Tp v0_0 rfl (PO.loadB 0 pl22 rfl rfl rfl) rfl ?_
 refine Tp (.int .i64 x32) rfl (PO.move hs30_5) rfl ?_
 obtain ⟨hg42, h⟩ := grd_i h
 obtain ⟨p43, cs44, hat45, hrc46, hhas47⟩ := h0_0.at hg42.1 hg42.2 (by decide)
 obtain rfl := kd_ref01_Step_open hrc46
 refine Tp (.pointer (some p43)) rfl (PO.indexAddr (n := a0.Steps.length) Tryd.underlying22 sz63 rfl rfl hg42.1 hg42.2 hat45) rfl ?_
 refine Tp (.pointer (some (p43.add 1))) rfl (PO.fieldAddr fo63_1 rfl rfl) rfl ?_
 refine Tp (.int .i64 ((rd a0.Steps x32).At)) rfl (PO.loadM pl3 rfl (hhas47 1 _ rfl)) rfl ?_
 refine Tp (GV x31) rfl (PO.move hs30_4) rfl ?_
 obtain ⟨r49, hr50, h⟩ := bnd h
 refine WT.alt rfl (EO.call0 co9 (f_fault_Wrap_ok ((rd a0.Steps x32).Op) ((rd a0.Steps x32).At) x31 _ r49 hr50) (args3 rfl rfl rfl)) rfl ?_ ?_
 rintro _ M51 _ hle52 ⟨_, ⟨rfl, rfl⟩, rfl⟩
 have h0_0 := h0_0.mono hle52
 have hhas40 := hhas40.mono hle52
 have hhas47 := hhas47.mono hle52
 refine ⟨(StabL.anc rfl (StabL.anc rfl (StabL.anc rfl (StabL.anc rfl (StabL.anc rfl (StabL.anc rfl (StabL.anc rfl (StabL.anc rfl (StabL.anc rfl (StabL.anc rfl (StabL.anc rfl (StabL.anc rfl (StabL.anc rfl trivial))))))))))))), ?_⟩
 refine WT.a0 ?_
 refine WT.alt rfl ((PO.assign rfl).eo) rfl ?_ ?_
 rintro _ _ _ - ⟨rfl, rfl, rfl⟩
 refine ⟨(StabL.anc rfl (StabL.anc rfl (StabL.anc rfl (StabL.anc rfl (StabL.anc rfl (StabL.anc rfl (StabL.anc rfl (StabL.anc rfl (StabL.anc rfl (StabL.anc rfl (StabL.anc rfl (StabL.anc rfl (StabL.anc rfl trivial))))))))))))), ?_⟩
 refine WT.fin ?_
 refine WQ.blockN ?_
 refine WQ.thenC ?_
 refine WC.region ?_
 refine Pm (.int .i64 x32) hs30_5 rfl ?_
 refine Pu (.int .i64 (IntKind.i64.wrap (x32 - (1 : Int)))) (PO.sub rfl rfl) rfl ?_
 refine Pa (.int .i64 (IntKind.i64.wrap (x32 - (1 : Int)))) rfl rfl ?_
 refine WL.nil ?_
 refine WQ.again (r49, IntKind.i64.wrap (x32 - (1 : Int))) (Option.some.inj h).symm ?_
 exact ⟨(hle30.trans hle52), rfl, hs30_1, rfl, rfl⟩
 exact WT.no
 exact WT.no
 have h := ite_f hb34 h
 refine WC.exit ?_
 refine WQ.thenE ?_
 refine WQ.leaveE x31 (Option.some.inj h).symm (fun heq30 => ?_)
 subst heq30
 have h := hK30
 refine WQ.blockH ?_
 obtain rfl := Option.some.inj h
 refine WQ.thenJ ?_
 exact ⟨hle30, rfl, hs30_4⟩
 rintro ρ29 M29 H29 ⟨hle29, rfl, hs29_4⟩
 have h0_0 := h0_0.mono hle29
 refine Sr ?_
 refine Pm (GV x28) hs29_4 rfl ?_
 refine Pa (GV x28) rfl rfl ?_
 refine Nt ?_
 refine WC.ret ?_
 refine WQ.drop ?_
 exact WQ.returnsF h [] rfl (results1 rfl rfl) (hle26.trans hle29) ⟨x28, rfl, rfl, rfl⟩
 have h := ite_f hb23 h
 refine Sr ?_
 refine Pm (.int .i64 (a0.Steps.length : Int)) rfl rfl ?_
 refine Pu (.bool (decide ((0 : Int) < (a0.Steps.length : Int)))) (PO.gtr rfl rfl) rfl ?_
 refine Nt ?_
 refine WC.cond (b := decide ((0 : Int) < (a0.Steps.length : Int))) rfl (fun hb54 => ?_) (fun hb54 => ?_)
 have h := ite_t hb54 h
 refine WC.seq ?_
 refine WC.draw [0, 1, 0, 4, 15, 31, 63, 0, 128, 0, 512, 1920, 3968, 8064, 0, 16384, 65535, 131071] (.pure 0 (.pure 1 (.pure 2 (.pure 3 (.pure 4 (.pure 5 (.pure 6 (.pure 7 (.pure 8 (.pure 9 (.pure 10 (.pure 11 (.pure 12 (.pure 13 (.pure 14 (.pure 15 (.alt 16 (.pure 17 .done) .none))))))))))))))))) mixed (by kernel_rfl) ?_
 refine Tp (.pointer (some ⟨g21, 0, none⟩)) rfl (PO.fieldAddr fo24_0 rfl rfl) rfl ?_
 refine Tp v0_0 rfl (PO.loadB 0 pl22 rfl rfl rfl) rfl ?_
 refine Tp (.int .i64 (a0.Steps.length : Int)) rfl (PO.move rfl) rfl ?_
 refine Tp (.int .i64 (IntKind.i64.wrap ((a0.Steps.length : Int) - (1 : Int)))) rfl (PO.sub rfl rfl) rfl ?_
 obtain ⟨hg55, h⟩ := grd_i h
 obtain ⟨p56, cs57, hat58, hrc59, hhas60⟩ := h0_0.at hg55.1 hg55.2 (by decide)
 obtain rfl := kd_ref01_Step_open hrc59
 refine Tp (.pointer (some p56)) rfl (PO.indexAddr (n := a0.Steps.length) Tryd.underlying22 sz63 rfl rfl hg55.1 hg55.2 hat58) rfl ?_
 refine Tp (.pointer (some (p56.add 0))) rfl (PO.fieldAddr fo63_0 rfl rfl) rfl ?_
 refine Tp (.string ((rd a0.Steps (IntKind.i64.wrap ((a0.Steps.length : Int) - (1 : Int)))).Op)) rfl (PO.loadM pl9 rfl (IM.has0 hhas60)) rfl ?_
 refine Tp (.pointer (some ⟨g21, 0, none⟩)) rfl (PO.fieldAddr fo24_0 rfl rfl) rfl ?_
 refine Tp v0_0 rfl (PO.loadB 0 pl22 rfl rfl rfl) rfl ?_
 refine Tp (.int .i64 (a0.Steps.length : Int)) rfl (PO.move rfl) rfl ?_
 refine Tp (.int .i64 (IntKind.i64.wrap ((a0.Steps.length : Int) - (1 : Int)))) rfl (PO.sub rfl rfl) rfl ?_
 obtain ⟨hg62, h⟩ := grd_i h
 obtain ⟨p63, cs64, hat65, hrc66, hhas67⟩ := h0_0.at hg62.1 hg62.2 (by decide)
 obtain rfl := kd_ref01_Step_open hrc66
 refine Tp (.pointer (some p63)) rfl (PO.indexAddr (n := a0.Steps.length) Tryd.underlying22 sz63 rfl rfl hg62.1 hg62.2 hat65) rfl ?_
 refine Tp (.pointer (some (p63.add 1))) rfl (PO.fieldAddr fo63_1 rfl rfl) rfl ?_
 refine Tp (.int .i64 ((rd a0.Steps (IntKind.i64.wrap ((a0.Steps.length : Int) - (1 : Int)))).At)) rfl (PO.loadM pl3 rfl (hhas67 1 _ rfl)) rfl ?_
 refine Tp (.pointer (some ⟨g21, 1, none⟩)) rfl (PO.fieldAddr fo24_1 rfl rfl) rfl ?_
 refine Tp (.int .i64 a0.Code) rfl (PO.loadB 0 pl3 rfl rfl rfl) rfl ?_
 obtain ⟨r69, hr70, h⟩ := bnd h
 refine WT.alt rfl (EO.call0 co29 (f_fault_New_ok ((rd a0.Steps (IntKind.i64.wrap ((a0.Steps.length : Int) - (1 : Int)))).Op) ((rd a0.Steps (IntKind.i64.wrap ((a0.Steps.length : Int) - (1 : Int)))).At) a0.Code _ r69 hr70) (args3 rfl rfl rfl)) rfl ?_ ?_
 rintro _ M71 _ hle72 ⟨_, ⟨rfl, rfl⟩, rfl⟩
 have h0_0 := h0_0.mono hle72
 have hhas60 := hhas60.mono hle72
 have hhas67 := hhas67.mono hle72
 refine ⟨(StabL.anc rfl (StabL.anc rfl (StabL.anc rfl (StabL.anc rfl (StabL.anc rfl (StabL.anc rfl (StabL.anc rfl (StabL.anc rfl (StabL.anc rfl (StabL.anc rfl (StabL.anc rfl (StabL.anc rfl (StabL.anc rfl (StabL.anc rfl (StabL.anc rfl (StabL.anc rfl trivial)))))))))))))))), ?_⟩
 refine WT.a0 ?_
 refine Tp (GV r69) rfl (PO.assign rfl) rfl ?_
 refine WT.fin ?_
 refine WQ.thenC ?_
 refine WC.region ?_
 refine Pm (.int .i64 (a0.Steps.length : Int)) rfl rfl ?_
 refine Pu (.int .i64 (IntKind.i64.wrap ((a0.Steps.length : Int) - (1 : Int)))) (PO.sub rfl rfl) rfl ?_
 refine Pa (.int .i64 (IntKind.i64.wrap ((a0.Steps.length : Int) - (1 : Int)))) rfl rfl ?_
 refine Nt ?_
 obtain ⟨x74, hj75, h⟩ := bnd h
 refine WC.joinF (fun (x74 : GErr) ρ' M' H' => M71.le M' ∧ [(g21, .cells #[v0_0, (.int .i64 a0.Code)] 24 (0, 0))] :: F = H' ∧ ρ' 4 = (GV x74)) x74 ?_ ?_
 have h375 := h
 have h := hj75
 refine Sr ?_
 refine Pm (.int .i64 (IntKind.i64.wrap ((a0.Steps.length : Int) - (1 : Int)))) rfl rfl ?_
 refine Pu (.int .i64 (IntKind.i64.wrap ((IntKind.i64.wrap ((a0.Steps.length : Int) - (1 : Int))) - (1 : Int)))) (PO.sub rfl rfl) rfl ?_
 refine Pa (.int .i64 (IntKind.i64.wrap ((IntKind.i64.wrap ((a0.Steps.length : Int) - (1 : Int))) - (1 : Int)))) rfl rfl ?_
 refine Nt ?_
 refine WC.block ?_
 obtain ⟨e76, he76, hK76⟩ := bnd h
 clear h
 refine WC.loop he76 (fun (p_ : (GErr × Int)) ρ' M' H' => match p_ with | (x77, x78) => M71.le M' ∧ [(g21, .cells #[v0_0, (.int .i64 a0.Code)] 24 (0, 0))] :: F = H' ∧ ρ' 1 = (.pointer (some ⟨g21, 0, none⟩)) ∧ ρ' 4 = (GV x77) ∧ ρ' 5 = (.int .i64 x78)) ?_ ?_
 exact ⟨(IM.le.refl _), rfl, rfl, rfl, rfl⟩
 rintro ⟨x77, x78⟩ o76 ρ76 M76 H76 h ⟨hle76, rfl, hs76_1, hs76_4, hs76_5⟩
 unfold f_law01_made_l1 at h
 have h0_0 := h0_0.mono hle76
 refine WC.seq ?_
 refine Sr ?_
 refine Pm (.int .i64 x78) hs76_5 rfl ?_
 refine Pu (.bool (decide ((0 : Int) ≤ x78))) (PO.geq rfl rfl) rfl ?_
 refine Nt ?_
 refine WC.cond (b := decide ((0 : Int) ≤ x78)) rfl (fun hb80 => ?_) (fun hb80 => ?_)
 have h := ite_t hb80 h
 refine WC.skip ?_
 refine WQ.thenC ?_
 refine WC.seq ?_
 refine WC.block ?_
 refine WC.draw [0, 1, 0, 7, 15, 31, 0, 64, 0, 448, 960, 1984, 0, 8191, 16383] (.pure 0 (.pure 1 (.pure 2 (.pure 3 (.pure 4 (.pure 5 (.pure 6 (.pure 7 (.pure 8 (.pure 9 (.pure 10 (.pure 11 (.pure 12 (.alt 13 (.alt 14 .done .none) .none)))))))))))))) mixed (by kernel_rfl) ?_
 refine Tp (.pointer (some ⟨g21, 0, none⟩)) rfl (PO.fieldAddr fo24_0 hs76_1 rfl) rfl ?_
 refine Tp v0_0 rfl (PO.loadB 0 pl22 rfl rfl rfl) rfl ?_
 refine Tp (.int .i64 x78) rfl (PO.move hs76_5) rfl ?_
 obtain ⟨hg81, h⟩ := grd_i h
 obtain ⟨p82, cs83, hat84, hrc85, hhas86⟩ := h0_0.at hg81.1 hg81.2 (by decide)
 obtain rfl := kd_ref01_Step_open hrc85
 refine Tp (.pointer (some p82)) rfl (PO.indexAddr (n := a0.Steps.length) Tryd.underlying22 sz63 rfl rfl hg81.1 hg81.2 hat84) rfl ?_
 refine Tp (.pointer (some (p82.add 0))) rfl (PO.fieldAddr fo63_0 rfl rfl) rfl ?_
 refine Tp (.string ((rd a0.Steps x78).Op)) rfl (PO.loadM pl9 rfl (IM.has0 hhas86)) rfl ?_
 refine Tp (.pointer (some ⟨g21, 0, none⟩)) rfl (PO.fieldAddr fo24_0 hs76_1 rfl) rfl ?_
 refine Tp v0_0 rfl (PO.loadB 0 pl22 rfl rfl rfl) rfl ?_
 refine Tp (.int .i64 x78) rfl (PO.move hs76_5) rfl ?_
 obtain ⟨hg88, h⟩ := grd_i h
 obtain ⟨p89, cs90, hat91, hrc92, hhas93⟩ := h0_0.at hg88.1 hg88.2 (by decide)
 obtain rfl := kd_ref01_Step_open hrc92
 refine Tp (.pointer (some p89)) rfl (PO.indexAddr (n := a0.Steps.length) Tryd.underlying22 sz63 rfl rfl hg88.1 hg88.2 hat91) rfl ?_
 refine Tp (.pointer (some (p89.add 1))) rfl (PO.fieldAddr fo63_1 rfl rfl) rfl ?_
 refine Tp (.int .i64 ((rd a0.Steps x78).At)) rfl (PO.loadM pl3 rfl (hhas93 1 _ rfl)) rfl ?_
 refine Tp (GV x77) rfl (PO.move hs76_4) rfl ?_
 obtain ⟨r95, hr96, h⟩ := bnd h
 refine WT.alt rfl (EO.call0 co9 (f_fault_Wrap_ok ((rd a0.Steps x78).Op) ((rd a0.Steps x78).At) x77 _ r95 hr96) (args3 rfl rfl rfl)) rfl ?_ ?_
 rintro _ M97 _ hle98 ⟨_, ⟨rfl, rfl⟩, rfl⟩
 have h0_0 := h0_0.mono hle98
 have hhas86 := hhas86.mono hle98
 have hhas93 := hhas93.mono hle98
 refine ⟨(StabL.anc rfl (StabL.anc rfl (StabL.anc rfl (StabL.anc rfl (StabL.anc rfl (StabL.anc rfl (StabL.anc rfl (StabL.anc rfl (StabL.anc rfl (StabL.anc rfl (StabL.anc rfl (StabL.anc rfl (StabL.anc rfl trivial))))))))))))), ?_⟩
 refine WT.a0 ?_
 refine WT.alt rfl ((PO.assign rfl).eo) rfl ?_ ?_
 rintro _ _ _ - ⟨rfl, rfl, rfl⟩
 refine ⟨(StabL.anc rfl (StabL.anc rfl (StabL.anc rfl (StabL.anc rfl (StabL.anc rfl (StabL.anc rfl (StabL.anc rfl (StabL.anc rfl (StabL.anc rfl (StabL.anc rfl (StabL.anc rfl (StabL.anc rfl (StabL.anc rfl trivial))))))))))))), ?_⟩
 refine WT.fin ?_
 refine WQ.blockN ?_
 refine WQ.thenC ?_
 refine WC.region ?_
 refine Pm (.int .i64 x78) hs76_5 rfl ?_
 refine Pu (.int .i64 (IntKind.i64.wrap (x78 - (1 : Int)))) (PO.sub rfl rfl) rfl ?_
 refine Pa (.int .i64 (IntKind.i64.wrap (x78 - (1 : Int)))) rfl rfl ?_
 refine WL.nil ?_
 refine WQ.again (r95, IntKind.i64.wrap (x78 - (1 : Int))) (Option.some.inj h).symm ?_
 exact ⟨(hle76.trans hle98), rfl, hs76_1, rfl, rfl⟩
 exact WT.no
 exact WT.no
 have h := ite_f hb80 h
 refine WC.exit ?_
 refine WQ.thenE ?_
 refine WQ.leaveE x77 (Option.some.inj h).symm (fun heq76 => ?_)
 subst heq76
 have h := hK76
 refine WQ.blockH ?_
 obtain rfl := Option.some.inj h
 refine WQ.thenJ ?_
 exact ⟨hle76, rfl, hs76_4⟩
 rintro ρ75 M75 H75 ⟨hle75, rfl, hs75_4⟩
 have h0_0 := h0_0.mono hle75
 refine Sr ?_
 refine Pm (GV x74) hs75_4 rfl ?_
 refine Pa (GV x74) rfl rfl ?_
 refine Nt ?_
 refine WC.ret ?_
 refine WQ.drop ?_
 exact WQ.returnsF h [] rfl (results1 rfl rfl) (hle72.trans hle75) ⟨x74, rfl, rfl, rfl⟩
 exact WT.no
 have h := ite_f hb54 h
 refine Sr ?_
 refine Pu (.pointer (some ⟨g21, 1, none⟩)) (PO.fieldAddr fo24_1 rfl rfl) rfl ?_
 refine Pu (.int .i64 a0.Code) (PO.loadB 0 pl3 rfl rfl rfl) rfl ?_
 refine Pu (GV (GErr.code a0.Code)) (PO.makeInterface cc35 rfl) rfl ?_
 refine Pa (GV (GErr.code a0.Code)) rfl rfl ?_
 refine Nt ?_
 refine WC.ret ?_
 refine WQ.thenR ?_
 refine WQ.drop ?_
 exact WQ.returnsF h [] rfl (results1 rfl rfl) (IM.le.refl _) ⟨(GErr.code a0.Code), rfl, rfl, rfl⟩


end Go.Proofs.YtmifmgpfjamdkaaDoor.G
