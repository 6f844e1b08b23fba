/- Go functions: what they come to, and that they do. Printed by a program of the session (gen). -/
import Derived.Test.YtjgnbbakamellaaGreatDoorBF
import Derived.Test.YtjgnbbakamellaaGreatDoorB17
import Derived.Test.YtjgnbbakamellaaGreatDoorKConv
import Derived.Test.YtjgnbbakamellaaGreatDoorKEq2
set_option linter.unusedVariables false
set_option linter.unusedSimpArgs false
set_option maxHeartbeats 8000000
set_option maxRecDepth 100000
namespace Go.Proofs.YtjgnbbakamellaaGreatDoor.G
open Go Go.KK

noncomputable def f_errors_As_code (a0 : GErr) (a1 : Int) : Option (Bool × Int) :=
  (if a0.isNil = true then (some (false, a1)) else ((f_errors_as_code a0 a1).bind fun (r24, r25) => (some (r24, r25))))
def f_errors_As_code_post (a0 : GErr) (a1 : Int) (g1 : Nat) : (Bool × Int) → Value → IM → HL → Prop :=
  fun (p_ : (Bool × Int)) (v : Value) (M' : IM) (H' : HL) => match p_ with | (r0, r1) => (.bool r0) = v ∧ H' = [[(g1, .cells #[(.int .i64 r1)] 35 (0, 0))]]
theorem f_errors_As_code_ok (a0 : GErr) (a1 : Int) (M : IM) (g1 : Nat) (hE : Env M) (res : (Bool × Int)) (h : f_errors_As_code a0 a1 = some res) :
    Tri Tryz.prog 68 #[(GV a0), (.iface 114 (pt g1 0))] M [[(g1, .cells #[(.int .i64 a1)] 35 (0, 0))]] (f_errors_As_code_post a0 a1 g1 res) := by
 unfold f_errors_As_code at h
 refine Tri.enter (fn := Tryz.f68) Tryz.func68 rfl (Nat.le_of_ble_eq_true rfl) ?_
 intro F ρ hρ
 refine Sr ?_
 refine Pa (.bool false) rfl rfl ?_
 refine Nt ?_
 refine WC.seq ?_
 refine Sr ?_
 refine Pm (GV a0) (hρ 0) rfl ?_
 refine Pu (.bool a0.isNil) (PO.errNil Tryz.underlying30 rfl) rfl ?_
 refine Nt ?_
 refine WC.cond (b := a0.isNil) rfl (fun hb21 => ?_) (fun hb21 => ?_)
 have h := ite_t hb21 h
 refine Sr ?_
 refine Pa (.bool false) rfl rfl ?_
 refine Nt ?_
 refine WC.ret ?_
 refine WQ.thenR ?_
 exact WQ.returnsF h [[(g1, .cells #[(.int .i64 a1)] 35 (0, 0))]] rfl (results1 rfl rfl) (IM.le.refl _) ⟨rfl, rfl⟩
 have h := ite_f hb21 h
 refine WC.skip ?_
 refine WQ.thenC ?_
 refine WC.seq ?_
 refine Sr ?_
 refine Pm (.iface 114 (pt g1 0)) (hρ 1) rfl ?_
 refine Pu (.bool false) (PO.ifcNil Tryz.underlying20 rfl) rfl ?_
 refine Nt ?_
 refine WC.condF (b := false) rfl rfl ?_
 refine WC.skip ?_
 refine WQ.thenC ?_
 refine Sr ?_
 refine Pm (.iface 114 (pt g1 0)) (hρ 1) rfl ?_
 refine WL.eff (EO.valueOf xt80 (args1 (show ev _ _ = (.iface 114 (pt g1 0)) from rfl)) (vo114 ⟨g1, 0, none⟩)) rfl ?_
 rintro _ _ _ - ⟨rfl, g22, rfl, rfl⟩
 refine WL.eff (EO.alloc ze135 rfl) rfl ?_
 rintro _ _ _ - ⟨rfl, g23, rfl, rfl⟩
 refine WL.eff (EO.storeL (v := (.agg #[(pt 1 114), (pt g22 0), (.int .u64 150)])) (vl := [(pt 1 114), (pt g22 0), (.int .u64 150)]) (arr' := [(pt 1 114), (pt g22 0), (.int .u64 150)]) rfl sz135 rfl rfl (onesOf (Ones.cons rfl (Ones.cons rfl (Ones.cons rfl Ones.nil)))) rfl rfl rfl) rfl ?_
 rintro _ _ _ - ⟨rfl, rfl⟩
 refine Ns ?_
 refine Pu (.agg #[(pt 1 114), (pt g22 0), (.int .u64 150)]) (PO.loadBA (cs := [(pt 1 114), (pt g22 0), (.int .u64 150)]) 0 ag135 sz135 rfl rfl rfl) rfl ?_
 refine WL.eff (EO.extP xt81 (args1 (show ev _ _ = (.agg #[(pt 1 114), (pt g22 0), (.int .u64 150)]) from rfl)) (vt114_150 _)) rfl ?_
 rintro _ _ _ - ⟨rfl, rfl, rfl⟩
 refine Pa (.iface 143 (.agg #[.pointer (some ⟨1, 114, none⟩)])) rfl rfl ?_
 refine Nt ?_
 refine WC.seq ?_
 refine Sr ?_
 refine Pm (.iface 143 (.agg #[.pointer (some ⟨1, 114, none⟩)])) rfl rfl ?_
 refine WL.eff (EO.invE (show ev _ _ = (.iface 143 (.agg #[.pointer (some ⟨1, 114, none⟩)])) from rfl) (mm_Kind (pt 1 114)) xt102 inv0 mr_Kind_114) rfl ?_
 rintro _ _ _ - ⟨rfl, rfl, rfl⟩
 refine Pu (.bool false) (PO.neqR rfl rfl (by decide)) rfl ?_
 refine Pm (.bool false) rfl rfl ?_
 refine On 20 rfl rfl rfl ?_
 refine Pu (.agg #[(pt 1 114), (pt g22 0), (.int .u64 150)]) (PO.loadBA (cs := [(pt 1 114), (pt g22 0), (.int .u64 150)]) 0 ag135 sz135 rfl rfl rfl) rfl ?_
 refine On 20 rfl rfl rfl ?_
 refine WL.eff (EO.isNil 1 xt82 pp114_150 rfl pl114 (args1 (show ev _ _ = (.agg #[(pt 1 114), (pt g22 0), (.int .u64 150)]) from rfl)) rfl) rfl ?_
 rintro _ _ _ - ⟨rfl, rfl, rfl⟩
 refine Pu (.bool false) (PO.pickF rfl rfl rfl) rfl ?_
 refine Nt ?_
 refine WC.condF (b := false) rfl rfl ?_
 refine WC.skip ?_
 refine WQ.thenC ?_
 refine Sr ?_
 refine Pm (.iface 143 (.agg #[.pointer (some ⟨1, 114, none⟩)])) rfl rfl ?_
 refine WL.eff (EO.invE (show ev _ _ = (.iface 143 (.agg #[.pointer (some ⟨1, 114, none⟩)])) from rfl) (mm_Elem (pt 1 114)) xt115 inv0 mr_Elem_114) rfl ?_
 rintro _ _ _ - ⟨rfl, rfl, rfl⟩
 refine Pa (.iface 143 (.agg #[.pointer (some ⟨1, 35, none⟩)])) rfl rfl ?_
 refine Nt ?_
 refine WC.seq ?_
 refine Sr ?_
 refine Pm (.iface 143 (.agg #[.pointer (some ⟨1, 35, none⟩)])) rfl rfl ?_
 refine WL.eff (EO.invE (show ev _ _ = (.iface 143 (.agg #[.pointer (some ⟨1, 35, none⟩)])) from rfl) (mm_Kind (pt 1 35)) xt102 inv0 mr_Kind_35) rfl ?_
 rintro _ _ _ - ⟨rfl, rfl, rfl⟩
 refine Pu (.bool true) (PO.neqR rfl rfl (by decide)) rfl ?_
 refine Pm (.bool true) rfl rfl ?_
 refine On 30 rfl rfl rfl ?_
 refine Pm (.iface 143 (.agg #[.pointer (some ⟨1, 35, none⟩)])) rfl rfl ?_
 refine On 30 rfl rfl rfl ?_
 refine Pu (.iface 143 (.agg #[.pointer (some ⟨1, 30, none⟩)])) (PO.loadG pl119 hE) rfl ?_
 refine On 30 rfl rfl rfl ?_
 refine WL.eff (EO.invE (show ev _ _ = (.iface 143 (.agg #[.pointer (some ⟨1, 35, none⟩)])) from rfl) (mm_Implements (pt 1 35)) xt116 (inv1 rfl) mr_Implements_35_30) rfl ?_
 rintro _ _ _ - ⟨rfl, rfl, rfl⟩
 refine On 30 rfl rfl rfl ?_
 refine Pu (.bool (!true)) (PO.not rfl) rfl ?_
 refine Pu (.bool (!true)) (PO.pickT rfl rfl rfl) rfl ?_
 refine Nt ?_
 refine WC.condF (b := !true) rfl rfl ?_
 refine WC.skip ?_
 refine WQ.thenC ?_
 refine Sr ?_
 refine Pm (GV a0) (hρ 0) rfl ?_
 refine Pm (.iface 114 (pt g1 0)) (hρ 1) rfl ?_
 refine Pu (.agg #[(pt 1 114), (pt g22 0), (.int .u64 150)]) (PO.loadBA (cs := [(pt 1 114), (pt g22 0), (.int .u64 150)]) 0 ag135 sz135 rfl rfl rfl) rfl ?_
 refine Pm (.iface 143 (.agg #[.pointer (some ⟨1, 35, none⟩)])) rfl rfl ?_
 obtain ⟨⟨r24, r25⟩, hr26, h⟩ := bnd h
 refine WL.f1 ?_
 refine WL.f2 ?_
 refine WL.eff (EO.call2 co83 (f_errors_as_code_ok a0 a1 _ _ _ (r24, r25) hr26) (args4 rfl rfl rfl rfl)) rfl ?_
 rintro _ M27 _ hle28 ⟨_, ⟨rfl, rfl⟩, rfl⟩
 have hE := hE.mono hle28
 refine WL.a2 ?_
 refine Pa (.bool r24) rfl rfl ?_
 refine Nt ?_
 refine WC.ret ?_
 refine WQ.f1 ?_
 refine WQ.drop ?_
 refine WQ.f1 ?_
 refine WQ.drop ?_
 exact WQ.returnsF h [[(g1, .cells #[(.int .i64 r25)] 35 (0, 0))]] rfl (results1 rfl rfl) hle28 ⟨rfl, rfl⟩

noncomputable def f_fault_Of (a0 : GErr) : Option Int :=
  (if a0.isNil = true then (some (0 : Int)) else ((f_errors_As_code a0 (0 : Int)).bind fun (r23, r24) => (if r23 = true then (some r24) else (some (21 : Int)))))
def f_fault_Of_post (a0 : GErr) : Int → Value → IM → HL → Prop :=
  fun (r0 : Int) (v : Value) (M' : IM) (H' : HL) => (.int .i64 r0) = v ∧ H' = []
theorem f_fault_Of_ok (a0 : GErr) (M : IM) (hE : Env M) (res : Int) (h : f_fault_Of a0 = some res) :
    Tri Tryz.prog 41 #[(GV a0)] M [] (f_fault_Of_post a0 res) := by
 unfold f_fault_Of at h
 refine Tri.enter (fn := Tryz.f41) Tryz.func41 rfl (Nat.le_of_ble_eq_true rfl) ?_
 intro F ρ hρ
 refine Sr ?_
 refine Pa (.int .i64 0) rfl rfl ?_
 refine Nt ?_
 refine WC.seq ?_
 refine Sr ?_
 refine Pm (GV a0) (hρ 0) rfl ?_
 refine Pu (.bool a0.isNil) (PO.errNil Tryz.underlying30 rfl) rfl ?_
 refine Nt ?_
 refine WC.cond (b := a0.isNil) rfl (fun hb21 => ?_) (fun hb21 => ?_)
 have h := ite_t hb21 h
 refine Sr ?_
 refine Pa (.int .i64 0) rfl rfl ?_
 refine Nt ?_
 refine WC.ret ?_
 refine WQ.thenR ?_
 exact WQ.returnsF h [] rfl (results1 rfl rfl) (IM.le.refl _) ⟨rfl, rfl⟩
 have h := ite_f hb21 h
 refine WC.skip ?_
 refine WQ.thenC ?_
 refine Sr ?_
 refine WL.eff (EO.alloc ze35 rfl) rfl ?_
 rintro _ _ _ - ⟨rfl, g22, rfl, rfl⟩
 refine Nt ?_
 refine WC.seq ?_
 refine Sr ?_
 refine Pm (GV a0) (hρ 0) rfl ?_
 refine Pu (.iface 114 (pt g22 0)) (PO.makeInterface cc114 rfl) rfl ?_
 obtain ⟨⟨r23, r24⟩, hr25, h⟩ := bnd h
 refine WL.eff (EO.call1 co68 (f_errors_As_code_ok a0 (0 : Int) _ _ hE (r23, r24) hr25) (args2 rfl rfl)) rfl ?_
 rintro _ M26 _ hle27 ⟨_, ⟨rfl, rfl⟩, rfl⟩
 have hE := hE.mono hle27
 refine WL.a1 ?_
 refine Nt ?_
 refine WC.cond (b := r23) rfl (fun hb29 => ?_) (fun hb29 => ?_)
 have h := ite_t hb29 h
 refine Sr ?_
 refine Pu (.int .i64 r24) (PO.loadB 0 pl35 rfl rfl rfl) rfl ?_
 refine Pa (.int .i64 r24) rfl rfl ?_
 refine Nt ?_
 refine WC.ret ?_
 refine WQ.thenR ?_
 refine WQ.drop ?_
 exact WQ.returnsF h [] rfl (results1 rfl rfl) hle27 ⟨rfl, rfl⟩
 have h := ite_f hb29 h
 refine WC.skip ?_
 refine WQ.thenC ?_
 refine Sr ?_
 refine Pa (.int .i64 21) rfl rfl ?_
 refine Nt ?_
 refine WC.ret ?_
 refine WQ.drop ?_
 exact WQ.returnsF h [] rfl (results1 rfl rfl) hle27 ⟨rfl, rfl⟩

noncomputable def f_fault_Path_l0 (s_ : (GErr × (List ByteArray))) : Option ((GErr × (List ByteArray)) ⊕ (List ByteArray)) :=
  match s_ with
  | (x24, x25) =>
    (if (!x24.isNil) = true then ((f_errors_As_fault x24 (⟨(⟨#[]⟩ : ByteArray), (0 : Int), GErr.nil⟩ : T_api_Fault)).bind fun (r29, r30, r31, r32) => (if (!r29) = true then (some (Sum.inr x25)) else (grd (x25.length + [r30].length ≤ 274877906944) (some (Sum.inl (r32, x25 ++ [r30])))))) else (some (Sum.inr x25)))
noncomputable def f_fault_Path (a0 : GErr) : Option (List ByteArray) :=
  ((((iter (f_fault_Path_l0) (a0, [])).bind (fun (x26 : (List ByteArray)) => (some x26))) : Option (List ByteArray)).bind fun (x21 : (List ByteArray)) => (some x21))
def f_fault_Path_post (a0 : GErr) : (List ByteArray) → Value → IM → HL → Prop :=
  fun (r0 : (List ByteArray)) (v : Value) (M' : IM) (H' : HL) => ∃ vz0 cz0, vz0 = v ∧ H' = [cz0] ∧ OwnS Kd.str M' vz0 r0 cz0
theorem f_fault_Path_ok (a0 : GErr) (M : IM) (hE : Env M) (res : (List ByteArray)) (h : f_fault_Path a0 = some res) :
    Tri Tryz.prog 69 #[(GV a0)] M [] (f_fault_Path_post a0 res) := by
 unfold f_fault_Path at h
 refine Tri.enter (fn := Tryz.f69) Tryz.func69 rfl (Nat.le_of_ble_eq_true rfl) ?_
 intro F ρ hρ
 refine Sr ?_
 refine Pa (.slice none 0 0) rfl rfl ?_
 refine Ns ?_
 refine Pa (.slice none 0 0) rfl rfl ?_
 refine Nt ?_
 obtain ⟨x21, hj22, h⟩ := bnd h
 refine WC.joinF (fun (x21 : (List ByteArray)) ρ' M' H' => ∃ vx21 cx21, M.le M' ∧ cx21 :: F = H' ∧ ρ' 3 = vx21 ∧ OwnS Kd.str M' vx21 x21 cx21) x21 ?_ ?_
 have h322 := h
 have h := hj22
 refine WC.block ?_
 refine WC.e0 ?_
 obtain ⟨e23, he23, hK23⟩ := bnd h
 clear h
 refine WC.loop he23 (fun (p_ : (GErr × (List ByteArray))) ρ' M' H' => match p_ with | (x24, x25) => ∃ vx25 cx25, M.le M' ∧ cx25 :: F = H' ∧ ρ' 0 = (GV x24) ∧ ρ' 3 = vx25 ∧ OwnS Kd.str M' vx25 x25 cx25) ?_ ?_
 exact ⟨(.slice none 0 0), [], (IM.le.refl _), rfl, (hρ 0), rfl, (OwnS.nil _ _)⟩
 rintro ⟨x24, x25⟩ o23 ρ23 M23 H23 h ⟨vx25, cx25, hle23, rfl, hs23_0, hs23_3, hx25⟩
 unfold f_fault_Path_l0 at h
 have hE := hE.mono hle23
 refine WC.seq ?_
 refine Sr ?_
 refine Pm (GV x24) hs23_0 rfl ?_
 refine Pu (.bool (!x24.isNil)) (PO.errNotNil Tryz.underlying30 rfl) rfl ?_
 refine Nt ?_
 refine WC.cond (b := !x24.isNil) rfl (fun hb27 => ?_) (fun hb27 => ?_)
 have h := ite_t hb27 h
 refine WC.skip ?_
 refine WQ.thenC ?_
 refine WC.block ?_
 refine Sr ?_
 refine WL.eff (EO.alloc ze98 rfl) rfl ?_
 rintro _ _ _ - ⟨rfl, g28, rfl, rfl⟩
 refine Nt ?_
 refine WC.seq ?_
 refine Sr ?_
 refine Pm (GV x24) hs23_0 rfl ?_
 refine Pu (.iface 113 (pt g28 0)) (PO.makeInterface cc113 rfl) rfl ?_
 obtain ⟨⟨r29, r30, r31, r32⟩, hr33, h⟩ := bnd h
 refine WL.eff (EO.call1 co68 (f_errors_As_fault_ok x24 (⟨(⟨#[]⟩ : ByteArray), (0 : Int), GErr.nil⟩ : T_api_Fault) _ _ hE (r29, r30, r31, r32) hr33) (args2 rfl rfl)) rfl ?_
 rintro _ M34 _ hle35 ⟨_, ⟨rfl, rfl⟩, rfl⟩
 have hx25 := hx25.mono hle35
 have hE := hE.mono hle35
 refine WL.a1 ?_
 refine Pu (.bool (!r29)) (PO.not rfl) rfl ?_
 refine Nt ?_
 refine WC.cond (b := !r29) rfl (fun hb37 => ?_) (fun hb37 => ?_)
 have h := ite_t hb37 h
 refine WC.exit ?_
 refine WQ.thenE ?_
 refine WQ.blockM rfl ?_
 refine WQ.leaveE x25 (Option.some.inj h).symm (fun heq23 => ?_)
 subst heq23
 have h := hK23
 refine WQ.blockH ?_
 refine WQ.drop ?_
 obtain rfl := Option.some.inj h
 refine WQ.thenJ ?_
 exact ⟨vx25, cx25, (hle23.trans hle35), rfl, hs23_3, hx25⟩
 have h := ite_f hb37 h
 refine WC.skip ?_
 refine WQ.thenC ?_
 refine Sr ?_
 refine Pm vx25 hs23_3 rfl ?_
 refine Pu (pt g28 0) (PO.fieldAddr fo98_0 rfl rfl) rfl ?_
 refine Pu (.string r30) (PO.loadB 0 pl9 rfl rfl rfl) rfl ?_
 refine WL.eff (EO.buildSliceL (cl := [(.string r30)]) Tryz.underlying115 iz9 rfl (Parts.cons (congrArg Value.cells (show ev _ _ = (.string r30) from rfl)) Parts.nil) rfl) rfl ?_
 rintro _ _ _ - ⟨rfl, g38, rfl, rfl⟩
 have h40 : OwnS Kd.str M34 (.slice (some ⟨g38, 0, none⟩) 1 1) [r30] [(g38, .cells #[(.string r30)] 9 (0, 0))] := OwnS.rows (css := [[(.string r30)]]) (Rows.cons rfl Rows.nil) rfl rfl
 obtain ⟨hg44, h⟩ := grd_i h
 refine WL.f2 ?_
 refine WL.eff (EO.append (dd := Kd.str) (xs := x25) (ys := [r30]) Tryz.underlying115 Tryz.underlying115 in9 rfl (appB (by decide) hg44) (by decide) rfl rfl hx25 (h40.src 1 rfl)) rfl ?_
 rintro v43 _ _ - ⟨rfl, c41, rfl, h42⟩
 refine Pa v43 rfl rfl ?_
 refine Nt ?_
 refine WC.region ?_
 refine Pu (pt g28 2) (PO.fieldAddr fo98_2 rfl rfl) rfl ?_
 refine Pu (GV r32) (PO.loadB 2 pl30 rfl rfl rfl) rfl ?_
 refine Pa (GV r32) rfl rfl ?_
 refine WL.nil ?_
 refine WQ.blockN ?_
 refine WQ.f1 ?_
 refine WQ.drop ?_
 refine WQ.f1 ?_
 refine WQ.drop ?_
 refine WQ.again (r32, x25 ++ [r30]) (Option.some.inj h).symm ?_
 exact ⟨v43, c41, (hle23.trans hle35), rfl, rfl, rfl, h42⟩
 have h := ite_f hb27 h
 refine WC.exit ?_
 refine WQ.thenE ?_
 refine WQ.leaveE x25 (Option.some.inj h).symm (fun heq23 => ?_)
 subst heq23
 have h := hK23
 refine WQ.blockH ?_
 obtain rfl := Option.some.inj h
 refine WQ.thenJ ?_
 exact ⟨vx25, cx25, hle23, rfl, hs23_3, hx25⟩
 rintro ρ22 M22 H22 ⟨vx21, cx21, hle22, rfl, hs22_3, hx21⟩
 have hE := hE.mono hle22
 refine Sr ?_
 refine Pm vx21 hs22_3 rfl ?_
 refine Pa vx21 rfl rfl ?_
 refine Nt ?_
 refine WC.ret ?_
 exact WQ.returnsF h [cx21] rfl (results1 rfl rfl) hle22 ⟨vx21, cx21, rfl, rfl, hx21⟩

noncomputable def f_fault_Under_l0 (a1 : ByteArray) (r22 : (List ByteArray)) (s_ : Int) : Option (Int ⊕ (Unit ⊕ Unit)) :=
  match s_ with
  | x28 =>
    (if (decide (x28 < (r22.length : Int))) = true then (grd (0 ≤ x28 ∧ x28 < r22.length) (if (decide ((rd r22 x28) = a1)) = true then (some (Sum.inr (Sum.inr ()))) else (some (Sum.inl (IntKind.i64.wrap (x28 + (1 : Int))))))) else (some (Sum.inr (Sum.inl ()))))
noncomputable def f_fault_Under (a0 : GErr) (a1 : ByteArray) : Option Bool :=
  ((((f_fault_Path a0).bind fun (r22 : (List ByteArray)) => ((iter (f_fault_Under_l0 a1 r22) (0 : Int)).bind (Sum.elim (fun _ => (some (Sum.inl ()))) (fun _ => (((some true)).bind fun r => some (Sum.inr r)))))) : Option (Unit ⊕ Bool)).bind (Sum.elim (fun _ => (some false)) some))
def f_fault_Under_post (a0 : GErr) (a1 : ByteArray) : Bool → Value → IM → HL → Prop :=
  fun (r0 : Bool) (v : Value) (M' : IM) (H' : HL) => (.bool r0) = v ∧ H' = []
theorem f_fault_Under_ok (a0 : GErr) (a1 : ByteArray) (M : IM) (hE : Env M) (res : Bool) (h : f_fault_Under a0 a1 = some res) :
    Tri Tryz.prog 42 #[(GV a0), (.string a1)] M [] (f_fault_Under_post a0 a1 res) := by
 unfold f_fault_Under at h
 refine Tri.enter (fn := Tryz.f42) Tryz.func42 rfl (Nat.le_of_ble_eq_true rfl) ?_
 intro F ρ hρ
 refine Sr ?_
 refine Pa (.bool false) rfl rfl ?_
 refine Nt ?_
 obtain ⟨j21, hj21, h⟩ := bnd h
 refine WC.joinE (fun (_ : Unit) ρ' M' H' => M.le M' ∧ F = H') j21 ?_ ?_
 have h321 := h
 have h := hj21
 refine Sr ?_
 refine Pm (GV a0) (hρ 0) rfl ?_
 obtain ⟨r22, hr23, h⟩ := bnd h
 refine WL.eff (EO.call0 co69 (f_fault_Path_ok a0 _ hE r22 hr23) (args1 rfl)) rfl ?_
 rintro _ M24 _ hle25 ⟨_, ⟨vq26, cq26, rfl, rfl, hq26⟩, rfl⟩
 have hE := hE.mono hle25
 refine WL.a1 ?_
 refine Pu (.int .i64 (r22.length : Int)) (PO.lenS Tryz.underlying115 rfl hq26.len) rfl ?_
 refine Pm (.int .i64 0) rfl rfl ?_
 refine Nt ?_
 refine WC.block ?_
 obtain ⟨e27, he27, hK27⟩ := bnd h
 clear h
 refine WC.loop he27 (fun (x28 : Int) ρ' M' H' => M24.le M' ∧ cq26 :: F = H' ∧ ρ' 1 = (.string a1) ∧ ρ' 8 = vq26 ∧ ρ' 9 = (.int .i64 (r22.length : Int)) ∧ ρ' 10 = (.int .i64 x28)) ?_ ?_
 exact ⟨(IM.le.refl _), rfl, (hρ 1), rfl, rfl, rfl⟩
 rintro x28 o27 ρ27 M27 H27 h ⟨hle27, rfl, hs27_1, hs27_8, hs27_9, hs27_10⟩
 unfold f_fault_Under_l0 at h
 have hq26 := hq26.mono hle27
 have hE := hE.mono hle27
 refine Sr ?_
 refine Pu (.bool (decide (x28 < (r22.length : Int)))) (PO.lss hs27_10 hs27_9) rfl ?_
 refine Nt ?_
 refine WC.seq ?_
 refine WC.cond (b := decide (x28 < (r22.length : Int))) rfl (fun hb29 => ?_) (fun hb29 => ?_)
 have h := ite_t hb29 h
 refine WC.skip ?_
 refine WQ.thenC ?_
 refine WC.seq ?_
 refine WC.block ?_
 refine Sr ?_
 obtain ⟨hg30, h⟩ := grd_i h
 obtain ⟨p31, cs32, hat33, hrc34, hhas35⟩ := hq26.at hg30.1 hg30.2
 obtain rfl := hrc34
 refine Pu (.pointer (some p31)) (PO.indexAddr (n := r22.length) Tryz.underlying115 sz9 hs27_8 hs27_10 hg30.1 hg30.2 hat33) rfl ?_
 refine Pu (.string (rd r22 x28)) (PO.loadC 0 pl9 rfl rfl (chunkHas0 hhas35)) rfl ?_
 refine Pa (.string (rd r22 x28)) rfl rfl ?_
 refine Ns ?_
 refine Pm (.string (rd r22 x28)) rfl rfl ?_
 refine Pm (.string a1) hs27_1 rfl ?_
 refine Pu (.bool (decide ((rd r22 x28) = a1))) (PO.seql rfl rfl) rfl ?_
 refine Nt ?_
 refine WC.cond (b := decide ((rd r22 x28) = a1)) rfl (fun hb37 => ?_) (fun hb37 => ?_)
 have h := ite_t hb37 h
 refine Sr ?_
 refine Pa (.bool true) rfl rfl ?_
 refine Nt ?_
 refine WC.ret ?_
 refine WQ.blockR ?_
 refine WQ.thenR ?_
 refine WQ.leaveR (Sum.inr ()) (Option.some.inj h).symm (fun heq27 => ?_)
 subst heq27
 have h := (elimR hK27)
 refine WQ.blockR ?_
 refine WQ.thenR ?_
 have h := KK.early h h321
 refine WQ.drop ?_
 exact WQ.returnsF h [] rfl (results1 rfl rfl) (hle25.trans hle27) ⟨rfl, rfl⟩
 have h := ite_f hb37 h
 refine WC.skip ?_
 refine WQ.blockN ?_
 refine WQ.thenC ?_
 refine WC.region ?_
 refine Pu (.int .i64 (IntKind.i64.wrap (x28 + 1))) (PO.add hs27_10 rfl) rfl ?_
 refine Pm (.int .i64 (IntKind.i64.wrap (x28 + 1))) rfl rfl ?_
 refine WL.nil ?_
 refine WQ.again (IntKind.i64.wrap (x28 + 1)) (Option.some.inj h).symm ?_
 exact ⟨hle27, rfl, hs27_1, hs27_8, hs27_9, rfl⟩
 have h := ite_f hb29 h
 refine WC.exit ?_
 refine WQ.thenE ?_
 refine WQ.leaveE (Sum.inl ()) (Option.some.inj h).symm (fun heq27 => ?_)
 subst heq27
 have h := elimL hK27
 refine WQ.blockH ?_
 refine WQ.drop ?_
 refine WQ.thenFE h ?_
 exact ⟨(hle25.trans hle27), rfl⟩
 rintro _ ρ21 M21 H21 rfl ⟨hle21, rfl⟩
 have hE := hE.mono hle21
 refine Sr ?_
 refine Pa (.bool false) rfl rfl ?_
 refine Nt ?_
 refine WC.ret ?_
 exact WQ.returnsF h [] rfl (results1 rfl rfl) hle21 ⟨rfl, rfl⟩

noncomputable def f_law22_wrong (a0 : GErr) (a1 : T_ref22_Wrong) : Option Bool :=
  (if a0.isNil = true then (some (decide (a1.Code = (0 : Int)))) else ((f_fault_Where a0).bind fun (r23, r24) => ((((f_fault_Of a0).bind fun (r32 : Int) => (if (decide (r32 = a1.Code)) = true then (if r24 = true then (if (decide (r23 = a1.At)) = true then ((f_fault_Under a0 a1.Op).bind fun (r40 : Bool) => (some r40)) else (some false)) else (some false)) else (some false))) : Option Bool).bind fun (x30 : Bool) => (some x30))))
def f_law22_wrong_post (a0 : GErr) (a1 : T_ref22_Wrong) : Bool → Value → IM → HL → Prop :=
  fun (r0 : Bool) (v : Value) (M' : IM) (H' : HL) => (.bool r0) = v ∧ H' = []
theorem f_law22_wrong_ok (a0 : GErr) (a1 : T_ref22_Wrong) (M : IM) (hE : Env M) (res : Bool) (h : f_law22_wrong a0 a1 = some res) :
    Tri Tryz.prog 9 #[(GV a0), (a37_ a1)] M [] (f_law22_wrong_post a0 a1 res) := by
 unfold f_law22_wrong at h
 refine Tri.enter (fn := Tryz.f9) Tryz.func9 rfl (Nat.le_of_ble_eq_true rfl) ?_
 intro F ρ hρ
 refine Sr ?_
 refine WL.eff (EO.box (cs := (l37 a1).toArray) (congrArg Value.cells (asE (a37_ a1) (hρ 1)))) rfl ?_
 rintro _ _ _ - ⟨rfl, g21, rfl, rfl⟩
 refine Pa (.bool false) rfl rfl ?_
 refine Nt ?_
 refine WC.seq ?_
 refine Sr ?_
 refine Pm (GV a0) (hρ 0) rfl ?_
 refine Pu (.bool a0.isNil) (PO.errNil Tryz.underlying30 rfl) rfl ?_
 refine Nt ?_
 refine WC.cond (b := a0.isNil) rfl (fun hb22 => ?_) (fun hb22 => ?_)
 have h := ite_t hb22 h
 refine Sr ?_
 refine Pu (pt g21 2) (PO.fieldAddr fo37_2 rfl rfl) rfl ?_
 refine Pu (.int .i64 a1.Code) (PO.loadB 0 pl35 rfl rfl rfl) rfl ?_
 refine Pu (.bool (decide (a1.Code = 0))) (PO.eql rfl rfl) rfl ?_
 refine Pa (.bool (decide (a1.Code = 0))) rfl rfl ?_
 refine Nt ?_
 refine WC.ret ?_
 refine WQ.thenR ?_
 refine WQ.drop ?_
 exact WQ.returnsF h [] rfl (results1 rfl rfl) (IM.le.refl _) ⟨rfl, rfl⟩
 have h := ite_f hb22 h
 refine WC.skip ?_
 refine WQ.thenC ?_
 refine Sr ?_
 refine Pm (GV a0) (hρ 0) rfl ?_
 obtain ⟨⟨r23, r24⟩, hr25, h⟩ := bnd h
 refine WL.eff (EO.call0 co40 (f_fault_Where_ok a0 _ hE (r23, r24) hr25) (args1 rfl)) rfl ?_
 rintro _ M26 _ hle27 ⟨_, ⟨rfl, rfl⟩, rfl⟩
 have hE := hE.mono hle27
 refine WL.a0 ?_
 refine Pm (.tuple #[(.int .i64 r23), (.bool r24)]) rfl rfl ?_
 refine Pu (.int .i64 r23) (PO.extract rfl rfl) rfl ?_
 refine Pu (.bool r24) (PO.extract rfl rfl) rfl ?_
 refine Pa (.int .i64 r23) rfl rfl ?_
 refine Pa (.bool r24) rfl rfl ?_
 refine Nt ?_
 obtain ⟨x30, hj31, h⟩ := bnd h
 refine WC.joinF (fun (x30 : Bool) ρ' M' H' => M26.le M' ∧ [(g21, .cells (l37 a1).toArray 37 (0, 0))] :: F = H' ∧ ρ' 4 = (.bool x30)) x30 ?_ ?_
 have h331 := h
 have h := hj31
 refine WC.draw [0, 1, 0, 4, 15, 31, 63, 127, 255, 511, 511, 1535, 4095, 8191, 16383, 32767, 32767, 98303, 262143, 524287, 1048575] (.pure 0 (.pure 2 (.pure 3 (.alt 1 (.pure 4 (.pure 5 (.pure 6 (.pure 7 (.pure 8 (.pure 9 (.pure 10 (.pure 11 (.pure 12 (.pure 13 (.pure 14 (.pure 15 (.pure 16 (.pure 17 (.alt 18 (.pure 19 (.pure 20 .done)) .none))))))))))))))) .none)))) mixed (by kernel_rfl) ?_
 refine Tp (GV a0) rfl (PO.move (hρ 0)) rfl ?_
 refine Tp (pt g21 2) rfl (PO.fieldAddr fo37_2 rfl rfl) rfl ?_
 refine Tp (.int .i64 a1.Code) rfl (PO.loadB 0 pl35 rfl rfl rfl) rfl ?_
 obtain ⟨r32, hr33, h⟩ := bnd h
 refine WT.alt rfl (EO.call0 co41 (f_fault_Of_ok a0 _ hE r32 hr33) (args1 rfl)) rfl ?_ ?_
 rintro _ M34 _ hle35 ⟨_, ⟨rfl, rfl⟩, rfl⟩
 have hE := hE.mono hle35
 refine ⟨(StabL.st (StabA.of rfl (PO.loadB 0 pl35 rfl rfl rfl) rfl) (StabL.st (StabA.of rfl (PO.fieldAddr fo37_2 rfl rfl) rfl) (StabL.anc rfl trivial))), ?_⟩
 refine WT.a0 ?_
 refine Tp (.bool (decide (r32 = a1.Code))) rfl (PO.eql rfl rfl) rfl ?_
 refine Tp (.bool (decide (r32 = a1.Code))) rfl (PO.move rfl) rfl ?_
 rcases Bool.eq_false_or_eq_true (decide (r32 = a1.Code)) with hb37 | hb37
 have h := ite_t hb37 h
 refine Tn (.bool r24) 22 rfl rfl rfl hb37 (PO.move rfl) rfl ?_
 refine Tp (.bool r24) rfl (PO.pickT rfl hb37 rfl) rfl ?_
 refine Tp (.bool r24) rfl (PO.move rfl) rfl ?_
 rcases Bool.eq_false_or_eq_true (r24) with hb38 | hb38
 have h := ite_t hb38 h
 refine Tn (.int .i64 r23) 25 rfl rfl rfl hb38 (PO.move rfl) rfl ?_
 refine Tn (pt g21 1) 25 rfl rfl rfl hb38 (PO.fieldAddr fo37_1 rfl rfl) rfl ?_
 refine Tn (.int .i64 a1.At) 25 rfl rfl rfl hb38 (PO.loadB 0 pl3 rfl rfl rfl) rfl ?_
 refine Tn (.bool (decide (r23 = a1.At))) 25 rfl rfl rfl hb38 (PO.eql rfl rfl) rfl ?_
 refine Tp (.bool (decide (r23 = a1.At))) rfl (PO.pickT rfl hb38 rfl) rfl ?_
 refine Tp (.bool (decide (r23 = a1.At))) rfl (PO.move rfl) rfl ?_
 rcases Bool.eq_false_or_eq_true (decide (r23 = a1.At)) with hb39 | hb39
 have h := ite_t hb39 h
 refine Tn (GV a0) 31 rfl rfl rfl hb39 (PO.move (hρ 0)) rfl ?_
 refine Tn (pt g21 0) 31 rfl rfl rfl hb39 (PO.fieldAddr fo37_0 rfl rfl) rfl ?_
 refine Tn (.string a1.Op) 31 rfl rfl rfl hb39 (PO.loadB 0 pl9 rfl rfl rfl) rfl ?_
 obtain ⟨r40, hr41, h⟩ := bnd h
 refine WT.altOn 31 rfl rfl rfl hb39 (EO.call0 co42 (f_fault_Under_ok a0 a1.Op _ hE r40 hr41) (args2 rfl rfl)) rfl ?_ ?_
 rintro _ M42 _ hle43 ⟨_, ⟨rfl, rfl⟩, rfl⟩
 have hE := hE.mono hle43
 refine ⟨(StabL.anc rfl (StabL.anc rfl (StabL.anc rfl (StabL.anc rfl (StabL.anc rfl (StabL.anc rfl (StabL.anc rfl (StabL.anc rfl (StabL.anc rfl (StabL.anc rfl (StabL.anc rfl (StabL.anc rfl (StabL.anc rfl (StabL.anc rfl (StabL.anc rfl (StabL.anc rfl (StabL.anc rfl trivial))))))))))))))))), ?_⟩
 refine WT.a0 ?_
 refine Tp (.bool r40) rfl (PO.pickT rfl hb39 rfl) rfl ?_
 refine Tp (.bool r40) rfl (PO.assign rfl) rfl ?_
 refine WT.fin ?_
 obtain rfl := Option.some.inj h
 refine WQ.thenJ ?_
 exact ⟨(hle35.trans hle43), rfl, rfl⟩
 exact WT.no
 have h := ite_f hb39 h
 refine WT.pureOff 31 rfl rfl rfl hb39 rfl ?_
 refine WT.pureOff 31 rfl rfl rfl hb39 rfl ?_
 refine WT.pureOff 31 rfl rfl rfl hb39 rfl ?_
 refine WT.altOff 31 rfl rfl rfl hb39 rfl ⟨(StabL.anc rfl (StabL.anc rfl (StabL.anc rfl (StabL.anc rfl (StabL.anc rfl (StabL.anc rfl (StabL.anc rfl (StabL.anc rfl (StabL.anc rfl (StabL.anc rfl (StabL.anc rfl (StabL.anc rfl (StabL.anc rfl (StabL.anc rfl (StabL.anc rfl (StabL.anc rfl (StabL.anc rfl trivial))))))))))))))))), ?_⟩ ?_
 refine Tp (.bool false) rfl (PO.pickF rfl hb39 rfl) rfl ?_
 refine Tp (.bool false) rfl (PO.assign rfl) rfl ?_
 refine WT.fin ?_
 obtain rfl := Option.some.inj h
 refine WQ.thenJ ?_
 exact ⟨hle35, rfl, rfl⟩
 exact WT.no
 have h := ite_f hb38 h
 refine WT.pureOff 25 rfl rfl rfl hb38 rfl ?_
 refine WT.pureOff 25 rfl rfl rfl hb38 rfl ?_
 refine WT.pureOff 25 rfl rfl rfl hb38 rfl ?_
 refine WT.pureOff 25 rfl rfl rfl hb38 rfl ?_
 refine Tp (.bool false) rfl (PO.pickF rfl hb38 rfl) rfl ?_
 refine Tp (.bool false) rfl (PO.move rfl) rfl ?_
 refine WT.pureOff 31 rfl rfl rfl rfl rfl ?_
 refine WT.pureOff 31 rfl rfl rfl rfl rfl ?_
 refine WT.pureOff 31 rfl rfl rfl rfl rfl ?_
 refine WT.altOff 31 rfl rfl rfl rfl rfl ⟨(StabL.anc rfl (StabL.anc rfl (StabL.anc rfl (StabL.anc rfl (StabL.anc rfl (StabL.anc rfl (StabL.anc rfl (StabL.anc rfl (StabL.anc rfl (StabL.anc rfl (StabL.anc rfl (StabL.anc rfl (StabL.anc rfl (StabL.anc rfl (StabL.anc rfl (StabL.anc rfl (StabL.anc rfl trivial))))))))))))))))), ?_⟩ ?_
 refine Tp (.bool false) rfl (PO.pickF rfl rfl rfl) rfl ?_
 refine Tp (.bool false) rfl (PO.assign rfl) rfl ?_
 refine WT.fin ?_
 obtain rfl := Option.some.inj h
 refine WQ.thenJ ?_
 exact ⟨hle35, rfl, rfl⟩
 exact WT.no
 have h := ite_f hb37 h
 refine WT.pureOff 22 rfl rfl rfl hb37 rfl ?_
 refine Tp (.bool false) rfl (PO.pickF rfl hb37 rfl) rfl ?_
 refine Tp (.bool false) rfl (PO.move rfl) rfl ?_
 refine WT.pureOff 25 rfl rfl rfl rfl rfl ?_
 refine WT.pureOff 25 rfl rfl rfl rfl rfl ?_
 refine WT.pureOff 25 rfl rfl rfl rfl rfl ?_
 refine WT.pureOff 25 rfl rfl rfl rfl rfl ?_
 refine Tp (.bool false) rfl (PO.pickF rfl rfl rfl) rfl ?_
 refine Tp (.bool false) rfl (PO.move rfl) rfl ?_
 refine WT.pureOff 31 rfl rfl rfl rfl rfl ?_
 refine WT.pureOff 31 rfl rfl rfl rfl rfl ?_
 refine WT.pureOff 31 rfl rfl rfl rfl rfl ?_
 refine WT.altOff 31 rfl rfl rfl rfl rfl ⟨(StabL.anc rfl (StabL.anc rfl (StabL.anc rfl (StabL.anc rfl (StabL.anc rfl (StabL.anc rfl (StabL.anc rfl (StabL.anc rfl (StabL.anc rfl (StabL.anc rfl (StabL.anc rfl (StabL.anc rfl (StabL.anc rfl (StabL.anc rfl (StabL.anc rfl (StabL.anc rfl (StabL.anc rfl trivial))))))))))))))))), ?_⟩ ?_
 refine Tp (.bool false) rfl (PO.pickF rfl rfl rfl) rfl ?_
 refine Tp (.bool false) rfl (PO.assign rfl) rfl ?_
 refine WT.fin ?_
 obtain rfl := Option.some.inj h
 refine WQ.thenJ ?_
 exact ⟨hle35, rfl, rfl⟩
 exact WT.no
 exact WT.no
 rintro ρ31 M31 H31 ⟨hle31, rfl, hs31_4⟩
 have hE := hE.mono hle31
 refine WC.ret ?_
 refine WQ.drop ?_
 exact WQ.returnsF h [] rfl (results1 rfl hs31_4) (hle27.trans hle31) ⟨rfl, rfl⟩

noncomputable def f_ref02_Ints_l0 (a0 : (List Int)) (a1 : (List Int)) (s_ : Int) : Option (Int ⊕ (Unit ⊕ Unit)) :=
  match s_ with
  | x24 =>
    (if (decide (x24 < (a0.length : Int))) = true then (grd (0 ≤ x24 ∧ x24 < a0.length) (grd (0 ≤ x24 ∧ x24 < a1.length) (if (decide ((rd a0 x24) ≠ (rd a1 x24))) = true then (some (Sum.inr (Sum.inr ()))) else (some (Sum.inl (IntKind.i64.wrap (x24 + (1 : Int)))))))) else (some (Sum.inr (Sum.inl ()))))
noncomputable def f_ref02_Ints (a0 : (List Int)) (a1 : (List Int)) : Option Bool :=
  (if (decide ((a0.length : Int) ≠ (a1.length : Int))) = true then (some false) else ((((iter (f_ref02_Ints_l0 a0 a1) (0 : Int)).bind (Sum.elim (fun _ => (some (Sum.inl ()))) (fun _ => (((some false)).bind fun r => some (Sum.inr r))))) : Option (Unit ⊕ Bool)).bind (Sum.elim (fun _ => (some true)) some)))
def f_ref02_Ints_post (a0 : (List Int)) (a1 : (List Int)) (v0 v1 : Value) : Bool → Value → IM → HL → Prop :=
  fun (r0 : Bool) (v : Value) (M' : IM) (H' : HL) => (.bool r0) = v ∧ H' = []
theorem f_ref02_Ints_ok (a0 : (List Int)) (a1 : (List Int)) (M : IM) (v0 v1 : Value) (h0 : RS (Kd.int .i64) M v0 a0) (h1 : RS (Kd.int .i64) M v1 a1) (res : Bool) (h : f_ref02_Ints a0 a1 = some res) :
    Tri Tryz.prog 43 #[v0, v1] M [] (f_ref02_Ints_post a0 a1 v0 v1 res) := by
 unfold f_ref02_Ints at h
 refine Tri.enter (fn := Tryz.f43) Tryz.func43 rfl (Nat.le_of_ble_eq_true rfl) ?_
 intro F ρ hρ
 refine Sr ?_
 refine Pa (.bool false) rfl rfl ?_
 refine Nt ?_
 refine WC.seq ?_
 refine Sr ?_
 refine Pm v0 (hρ 0) rfl ?_
 refine Pu (.int .i64 (a0.length : Int)) (PO.lenS Tryz.underlying24 rfl h0.len) rfl ?_
 refine Pm v1 (hρ 1) rfl ?_
 refine Pu (.int .i64 (a1.length : Int)) (PO.lenS Tryz.underlying24 rfl h1.len) rfl ?_
 refine Pu (.bool (decide ((a0.length : Int) ≠ (a1.length : Int)))) (PO.neq rfl rfl) rfl ?_
 refine Nt ?_
 refine WC.cond (b := decide ((a0.length : Int) ≠ (a1.length : Int))) rfl (fun hb21 => ?_) (fun hb21 => ?_)
 have h := ite_t hb21 h
 refine Sr ?_
 refine Pa (.bool false) rfl rfl ?_
 refine Nt ?_
 refine WC.ret ?_
 refine WQ.thenR ?_
 exact WQ.returnsF h [] rfl (results1 rfl rfl) (IM.le.refl _) ⟨rfl, rfl⟩
 have h := ite_f hb21 h
 refine WC.skip ?_
 refine WQ.thenC ?_
 obtain ⟨j22, hj22, h⟩ := bnd h
 refine WC.joinE (fun (_ : Unit) ρ' M' H' => M.le M' ∧ F = H') j22 ?_ ?_
 have h322 := h
 have h := hj22
 refine Sr ?_
 refine Pa (.int .i64 0) rfl rfl ?_
 refine Nt ?_
 refine WC.block ?_
 obtain ⟨e23, he23, hK23⟩ := bnd h
 clear h
 refine WC.loop he23 (fun (x24 : Int) ρ' M' H' => M.le M' ∧ F = H' ∧ ρ' 0 = v0 ∧ ρ' 1 = v1 ∧ ρ' 5 = (.int .i64 x24)) ?_ ?_
 exact ⟨(IM.le.refl _), rfl, (hρ 0), (hρ 1), rfl⟩
 rintro x24 o23 ρ23 M23 H23 h ⟨hle23, rfl, hs23_0, hs23_1, hs23_5⟩
 unfold f_ref02_Ints_l0 at h
 have h0 := h0.mono hle23
 have h1 := h1.mono hle23
 refine WC.seq ?_
 refine Sr ?_
 refine Pm (.int .i64 x24) hs23_5 rfl ?_
 refine Pm v0 hs23_0 rfl ?_
 refine Pu (.int .i64 (a0.length : Int)) (PO.lenS Tryz.underlying24 rfl h0.len) rfl ?_
 refine Pu (.bool (decide (x24 < (a0.length : Int)))) (PO.lss rfl rfl) rfl ?_
 refine Nt ?_
 refine WC.cond (b := decide (x24 < (a0.length : Int))) rfl (fun hb25 => ?_) (fun hb25 => ?_)
 have h := ite_t hb25 h
 refine WC.skip ?_
 refine WQ.thenC ?_
 refine WC.seq ?_
 refine WC.block ?_
 refine WC.seq ?_
 refine WC.draw [0, 0, 3, 7, 0, 0, 48, 112, 255] (.pure 0 (.pure 1 (.pure 2 (.pure 3 (.pure 4 (.pure 5 (.pure 6 (.pure 7 (.pure 8 .done))))))))) mixed (by kernel_rfl) ?_
 refine Tp v0 rfl (PO.move hs23_0) rfl ?_
 refine Tp (.int .i64 x24) rfl (PO.move hs23_5) rfl ?_
 obtain ⟨hg26, h⟩ := grd_i h
 obtain ⟨p27, cs28, hat29, hrc30, hhas31⟩ := h0.at hg26.1 hg26.2 (by decide)
 obtain rfl := hrc30
 refine Tp (.pointer (some p27)) rfl (PO.indexAddr (n := a0.length) Tryz.underlying24 sz3 rfl rfl hg26.1 hg26.2 hat29) rfl ?_
 refine Tp (.int .i64 (rd a0 x24)) rfl (PO.loadM pl3 rfl (IM.has0 hhas31)) rfl ?_
 refine Tp v1 rfl (PO.move hs23_1) rfl ?_
 refine Tp (.int .i64 x24) rfl (PO.move hs23_5) rfl ?_
 obtain ⟨hg33, h⟩ := grd_i h
 obtain ⟨p34, cs35, hat36, hrc37, hhas38⟩ := h1.at hg33.1 hg33.2 (by decide)
 obtain rfl := hrc37
 refine Tp (.pointer (some p34)) rfl (PO.indexAddr (n := a1.length) Tryz.underlying24 sz3 rfl rfl hg33.1 hg33.2 hat36) rfl ?_
 refine Tp (.int .i64 (rd a1 x24)) rfl (PO.loadM pl3 rfl (IM.has0 hhas38)) rfl ?_
 refine Tp (.bool (decide ((rd a0 x24) ≠ (rd a1 x24)))) rfl (PO.neq rfl rfl) rfl ?_
 refine WT.fin ?_
 refine WQ.thenC ?_
 refine WC.cond (b := decide ((rd a0 x24) ≠ (rd a1 x24))) rfl (fun hb40 => ?_) (fun hb40 => ?_)
 have h := ite_t hb40 h
 refine Sr ?_
 refine Pa (.bool false) rfl rfl ?_
 refine Nt ?_
 refine WC.ret ?_
 refine WQ.blockR ?_
 refine WQ.thenR ?_
 refine WQ.leaveR (Sum.inr ()) (Option.some.inj h).symm (fun heq23 => ?_)
 subst heq23
 have h := (elimR hK23)
 refine WQ.blockR ?_
 refine WQ.thenR ?_
 have h := KK.early h h322
 exact WQ.returnsF h [] rfl (results1 rfl rfl) hle23 ⟨rfl, rfl⟩
 have h := ite_f hb40 h
 refine WC.skip ?_
 refine WQ.blockN ?_
 refine WQ.thenC ?_
 refine WC.region ?_
 refine Pm (.int .i64 x24) hs23_5 rfl ?_
 refine Pu (.int .i64 (IntKind.i64.wrap (x24 + 1))) (PO.add rfl rfl) rfl ?_
 refine Pa (.int .i64 (IntKind.i64.wrap (x24 + 1))) rfl rfl ?_
 refine WL.nil ?_
 refine WQ.again (IntKind.i64.wrap (x24 + 1)) (Option.some.inj h).symm ?_
 exact ⟨hle23, rfl, hs23_0, hs23_1, rfl⟩
 have h := ite_f hb25 h
 refine WC.exit ?_
 refine WQ.thenE ?_
 refine WQ.leaveE (Sum.inl ()) (Option.some.inj h).symm (fun heq23 => ?_)
 subst heq23
 have h := elimL hK23
 refine WQ.blockH ?_
 refine WQ.thenFE h ?_
 exact ⟨hle23, rfl⟩
 rintro _ ρ22 M22 H22 rfl ⟨hle22, rfl⟩
 refine Sr ?_
 refine Pa (.bool true) rfl rfl ?_
 refine Nt ?_
 refine WC.ret ?_
 exact WQ.returnsF h [] rfl (results1 rfl rfl) hle22 ⟨rfl, rfl⟩

noncomputable def f_ref22_Same (a0 : T_api_Request) (a1 : T_api_Request) : Option Bool :=
  (((if (decide (a0.Client ≠ a1.Client)) = true then (some true) else (if (decide (a0.Serial ≠ a1.Serial)) = true then (some true) else (if (decide (a0.Kind ≠ a1.Kind)) = true then (some true) else (if (!decide (a0.Name = a1.Name)) = true then (some true) else (if (!decide (a0.Key = a1.Key)) = true then (some true) else (some (!decide (a0.Value = a1.Value)))))))) : Option Bool).bind fun (x23 : Bool) => (if x23 = true then (some false) else (((if (!(a0.Flag == a1.Flag)) = true then (some true) else (if (decide (a0.Parts ≠ a1.Parts)) = true then (some true) else (if (decide (a0.Replicas ≠ a1.Replicas)) = true then (some true) else (if (decide (a0.Part ≠ a1.Part)) = true then (some true) else (if (decide (a0.Broker ≠ a1.Broker)) = true then (some true) else (some (decide (a0.Epoch ≠ a1.Epoch)))))))) : Option Bool).bind fun (x31 : Bool) => (if x31 = true then (some false) else (((if (decide (a0.Rack = a1.Rack)) = true then (if (andL [decide (a0.Word.Broker = a1.Word.Broker), decide (a0.Word.Epoch = a1.Word.Epoch), decide (a0.Word.High = a1.Word.High), a0.Word.Fence == a1.Word.Fence, a0.Word.Leave == a1.Word.Leave]) = true then ((f_ref02_Ints a0.Ids a1.Ids).bind fun (r43 : Bool) => (some r43)) else (some false)) else (some false)) : Option Bool).bind fun (x39 : Bool) => (some x39))))))
def f_ref22_Same_post (a0 : T_api_Request) (a1 : T_api_Request) (v0_10 v1_10 : Value) : Bool → Value → IM → HL → Prop :=
  fun (r0 : Bool) (v : Value) (M' : IM) (H' : HL) => (.bool r0) = v ∧ H' = []
theorem f_ref22_Same_ok (a0 : T_api_Request) (a1 : T_api_Request) (M : IM) (v0_10 v1_10 : Value) (h0_10 : RS (Kd.int .i64) M v0_10 a0.Ids) (h1_10 : RS (Kd.int .i64) M v1_10 a1.Ids) (res : Bool) (h : f_ref22_Same a0 a1 = some res) :
    Tri Tryz.prog 10 #[(a28_ a0 v0_10), (a28_ a1 v1_10)] M [] (f_ref22_Same_post a0 a1 v0_10 v1_10 res) := by
 unfold f_ref22_Same at h
 refine Tri.enter (fn := Tryz.f10) Tryz.func10 rfl (Nat.le_of_ble_eq_true rfl) ?_
 intro F ρ hρ
 refine Sr ?_
 refine WL.eff (EO.box (cs := (l28 a0 v0_10).toArray) (congrArg Value.cells (asE (a28_ a0 v0_10) (hρ 0)))) rfl ?_
 rintro _ _ _ - ⟨rfl, g21, rfl, rfl⟩
 refine WL.eff (EO.box (cs := (l28 a1 v1_10).toArray) (congrArg Value.cells (asE (a28_ a1 v1_10) (hρ 1)))) rfl ?_
 rintro _ _ _ - ⟨rfl, g22, rfl, rfl⟩
 refine Pa (.bool false) rfl rfl ?_
 refine Nt ?_
 refine WC.seq ?_
 obtain ⟨x23, hj24, h⟩ := bnd h
 refine WC.joinF (fun (x23 : Bool) ρ' M' H' => M.le M' ∧ [(g22, .cells (l28 a1 v1_10).toArray 28 (0, 0))] :: [(g21, .cells (l28 a0 v0_10).toArray 28 (0, 0))] :: F = H' ∧ ρ' 2 = (pt g21 0) ∧ ρ' 3 = (pt g22 0) ∧ ρ' 44 = (.bool x23)) x23 ?_ ?_
 have h324 := h
 have h := hj24
 refine WC.region ?_
 refine Pu (pt g21 0) (PO.fieldAddr fo28_0 rfl rfl) rfl ?_
 refine Pu (.int .i64 a0.Client) (PO.loadB 1 pl3 rfl rfl rfl) rfl ?_
 refine Pu (pt g22 0) (PO.fieldAddr fo28_0 rfl rfl) rfl ?_
 refine Pu (.int .i64 a1.Client) (PO.loadB 0 pl3 rfl rfl rfl) rfl ?_
 refine Pu (.bool (decide (a0.Client ≠ a1.Client))) (PO.neq rfl rfl) rfl ?_
 refine Pm (.bool (decide (a0.Client ≠ a1.Client))) rfl rfl ?_
 rcases Bool.eq_false_or_eq_true (decide (a0.Client ≠ a1.Client)) with hb25 | hb25
 have h := ite_t hb25 h
 iterate 5 refine Of 10 rfl rfl hb25 rfl ?_
 refine Pu (.bool true) (PO.pickT rfl hb25 rfl) rfl ?_
 refine Pm (.bool true) rfl rfl ?_
 iterate 5 refine Of 17 rfl rfl rfl rfl ?_
 refine Pu (.bool true) (PO.pickT rfl rfl rfl) rfl ?_
 refine Pm (.bool true) rfl rfl ?_
 iterate 5 refine Of 24 rfl rfl rfl rfl ?_
 refine Pu (.bool true) (PO.pickT rfl rfl rfl) rfl ?_
 refine Pm (.bool true) rfl rfl ?_
 iterate 5 refine Of 31 rfl rfl rfl rfl ?_
 refine Pu (.bool true) (PO.pickT rfl rfl rfl) rfl ?_
 refine Pm (.bool true) rfl rfl ?_
 iterate 5 refine Of 38 rfl rfl rfl rfl ?_
 refine Pu (.bool true) (PO.pickT rfl rfl rfl) rfl ?_
 refine WL.nil ?_
 obtain rfl := Option.some.inj h
 refine WQ.thenJ ?_
 exact ⟨(IM.le.refl _), rfl, rfl, rfl, rfl⟩
 have h := ite_f hb25 h
 refine On 10 rfl rfl hb25 ?_
 refine Pu (pt g21 1) (PO.fieldAddr fo28_1 rfl rfl) rfl ?_
 refine On 10 rfl rfl hb25 ?_
 refine Pu (.int .i64 a0.Serial) (PO.loadB 1 pl3 rfl rfl rfl) rfl ?_
 refine On 10 rfl rfl hb25 ?_
 refine Pu (pt g22 1) (PO.fieldAddr fo28_1 rfl rfl) rfl ?_
 refine On 10 rfl rfl hb25 ?_
 refine Pu (.int .i64 a1.Serial) (PO.loadB 0 pl3 rfl rfl rfl) rfl ?_
 refine On 10 rfl rfl hb25 ?_
 refine Pu (.bool (decide (a0.Serial ≠ a1.Serial))) (PO.neq rfl rfl) rfl ?_
 refine Pu (.bool (decide (a0.Serial ≠ a1.Serial))) (PO.pickF rfl hb25 rfl) rfl ?_
 refine Pm (.bool (decide (a0.Serial ≠ a1.Serial))) rfl rfl ?_
 rcases Bool.eq_false_or_eq_true (decide (a0.Serial ≠ a1.Serial)) with hb26 | hb26
 have h := ite_t hb26 h
 iterate 5 refine Of 17 rfl rfl hb26 rfl ?_
 refine Pu (.bool true) (PO.pickT rfl hb26 rfl) rfl ?_
 refine Pm (.bool true) rfl rfl ?_
 iterate 5 refine Of 24 rfl rfl rfl rfl ?_
 refine Pu (.bool true) (PO.pickT rfl rfl rfl) rfl ?_
 refine Pm (.bool true) rfl rfl ?_
 iterate 5 refine Of 31 rfl rfl rfl rfl ?_
 refine Pu (.bool true) (PO.pickT rfl rfl rfl) rfl ?_
 refine Pm (.bool true) rfl rfl ?_
 iterate 5 refine Of 38 rfl rfl rfl rfl ?_
 refine Pu (.bool true) (PO.pickT rfl rfl rfl) rfl ?_
 refine WL.nil ?_
 obtain rfl := Option.some.inj h
 refine WQ.thenJ ?_
 exact ⟨(IM.le.refl _), rfl, rfl, rfl, rfl⟩
 have h := ite_f hb26 h
 refine On 17 rfl rfl hb26 ?_
 refine Pu (pt g21 2) (PO.fieldAddr fo28_2 rfl rfl) rfl ?_
 refine On 17 rfl rfl hb26 ?_
 refine Pu (.int .i64 a0.Kind) (PO.loadB 1 pl3 rfl rfl rfl) rfl ?_
 refine On 17 rfl rfl hb26 ?_
 refine Pu (pt g22 2) (PO.fieldAddr fo28_2 rfl rfl) rfl ?_
 refine On 17 rfl rfl hb26 ?_
 refine Pu (.int .i64 a1.Kind) (PO.loadB 0 pl3 rfl rfl rfl) rfl ?_
 refine On 17 rfl rfl hb26 ?_
 refine Pu (.bool (decide (a0.Kind ≠ a1.Kind))) (PO.neq rfl rfl) rfl ?_
 refine Pu (.bool (decide (a0.Kind ≠ a1.Kind))) (PO.pickF rfl hb26 rfl) rfl ?_
 refine Pm (.bool (decide (a0.Kind ≠ a1.Kind))) rfl rfl ?_
 rcases Bool.eq_false_or_eq_true (decide (a0.Kind ≠ a1.Kind)) with hb27 | hb27
 have h := ite_t hb27 h
 iterate 5 refine Of 24 rfl rfl hb27 rfl ?_
 refine Pu (.bool true) (PO.pickT rfl hb27 rfl) rfl ?_
 refine Pm (.bool true) rfl rfl ?_
 iterate 5 refine Of 31 rfl rfl rfl rfl ?_
 refine Pu (.bool true) (PO.pickT rfl rfl rfl) rfl ?_
 refine Pm (.bool true) rfl rfl ?_
 iterate 5 refine Of 38 rfl rfl rfl rfl ?_
 refine Pu (.bool true) (PO.pickT rfl rfl rfl) rfl ?_
 refine WL.nil ?_
 obtain rfl := Option.some.inj h
 refine WQ.thenJ ?_
 exact ⟨(IM.le.refl _), rfl, rfl, rfl, rfl⟩
 have h := ite_f hb27 h
 refine On 24 rfl rfl hb27 ?_
 refine Pu (pt g21 3) (PO.fieldAddr fo28_3 rfl rfl) rfl ?_
 refine On 24 rfl rfl hb27 ?_
 refine Pu (.string a0.Name) (PO.loadB 1 pl9 rfl rfl rfl) rfl ?_
 refine On 24 rfl rfl hb27 ?_
 refine Pu (pt g22 3) (PO.fieldAddr fo28_3 rfl rfl) rfl ?_
 refine On 24 rfl rfl hb27 ?_
 refine Pu (.string a1.Name) (PO.loadB 0 pl9 rfl rfl rfl) rfl ?_
 refine On 24 rfl rfl hb27 ?_
 refine Pu (.bool (!decide (a0.Name = a1.Name))) (PO.sneq rfl rfl) rfl ?_
 refine Pu (.bool (!decide (a0.Name = a1.Name))) (PO.pickF rfl hb27 rfl) rfl ?_
 refine Pm (.bool (!decide (a0.Name = a1.Name))) rfl rfl ?_
 rcases Bool.eq_false_or_eq_true (!decide (a0.Name = a1.Name)) with hb28 | hb28
 have h := ite_t hb28 h
 iterate 5 refine Of 31 rfl rfl hb28 rfl ?_
 refine Pu (.bool true) (PO.pickT rfl hb28 rfl) rfl ?_
 refine Pm (.bool true) rfl rfl ?_
 iterate 5 refine Of 38 rfl rfl rfl rfl ?_
 refine Pu (.bool true) (PO.pickT rfl rfl rfl) rfl ?_
 refine WL.nil ?_
 obtain rfl := Option.some.inj h
 refine WQ.thenJ ?_
 exact ⟨(IM.le.refl _), rfl, rfl, rfl, rfl⟩
 have h := ite_f hb28 h
 refine On 31 rfl rfl hb28 ?_
 refine Pu (pt g21 4) (PO.fieldAddr fo28_4 rfl rfl) rfl ?_
 refine On 31 rfl rfl hb28 ?_
 refine Pu (.string a0.Key) (PO.loadB 1 pl9 rfl rfl rfl) rfl ?_
 refine On 31 rfl rfl hb28 ?_
 refine Pu (pt g22 4) (PO.fieldAddr fo28_4 rfl rfl) rfl ?_
 refine On 31 rfl rfl hb28 ?_
 refine Pu (.string a1.Key) (PO.loadB 0 pl9 rfl rfl rfl) rfl ?_
 refine On 31 rfl rfl hb28 ?_
 refine Pu (.bool (!decide (a0.Key = a1.Key))) (PO.sneq rfl rfl) rfl ?_
 refine Pu (.bool (!decide (a0.Key = a1.Key))) (PO.pickF rfl hb28 rfl) rfl ?_
 refine Pm (.bool (!decide (a0.Key = a1.Key))) rfl rfl ?_
 rcases Bool.eq_false_or_eq_true (!decide (a0.Key = a1.Key)) with hb29 | hb29
 have h := ite_t hb29 h
 iterate 5 refine Of 38 rfl rfl hb29 rfl ?_
 refine Pu (.bool true) (PO.pickT rfl hb29 rfl) rfl ?_
 refine WL.nil ?_
 obtain rfl := Option.some.inj h
 refine WQ.thenJ ?_
 exact ⟨(IM.le.refl _), rfl, rfl, rfl, rfl⟩
 have h := ite_f hb29 h
 refine On 38 rfl rfl hb29 ?_
 refine Pu (pt g21 5) (PO.fieldAddr fo28_5 rfl rfl) rfl ?_
 refine On 38 rfl rfl hb29 ?_
 refine Pu (.string a0.Value) (PO.loadB 1 pl9 rfl rfl rfl) rfl ?_
 refine On 38 rfl rfl hb29 ?_
 refine Pu (pt g22 5) (PO.fieldAddr fo28_5 rfl rfl) rfl ?_
 refine On 38 rfl rfl hb29 ?_
 refine Pu (.string a1.Value) (PO.loadB 0 pl9 rfl rfl rfl) rfl ?_
 refine On 38 rfl rfl hb29 ?_
 refine Pu (.bool (!decide (a0.Value = a1.Value))) (PO.sneq rfl rfl) rfl ?_
 refine Pu (.bool (!decide (a0.Value = a1.Value))) (PO.pickF rfl hb29 rfl) rfl ?_
 refine WL.nil ?_
 obtain rfl := Option.some.inj h
 refine WQ.thenJ ?_
 exact ⟨(IM.le.refl _), rfl, rfl, rfl, rfl⟩
 rintro ρ24 M24 H24 ⟨hle24, rfl, hs24_2, hs24_3, hs24_44⟩
 have h1_10 := h1_10.mono hle24
 have h0_10 := h0_10.mono hle24
 refine WC.cond (b := x23) hs24_44 (fun hb30 => ?_) (fun hb30 => ?_)
 have h := ite_t hb30 h
 refine Sr ?_
 refine Pa (.bool false) rfl rfl ?_
 refine Nt ?_
 refine WC.ret ?_
 refine WQ.thenR ?_
 refine WQ.drop ?_
 refine WQ.drop ?_
 exact WQ.returnsF h [] rfl (results1 rfl rfl) hle24 ⟨rfl, rfl⟩
 have h := ite_f hb30 h
 refine WC.skip ?_
 refine WQ.thenC ?_
 refine WC.seq ?_
 obtain ⟨x31, hj32, h⟩ := bnd h
 refine WC.joinF (fun (x31 : Bool) ρ' M' H' => M24.le M' ∧ [(g22, .cells (l28 a1 v1_10).toArray 28 (0, 0))] :: [(g21, .cells (l28 a0 v0_10).toArray 28 (0, 0))] :: F = H' ∧ ρ' 2 = (pt g21 0) ∧ ρ' 3 = (pt g22 0) ∧ ρ' 84 = (.bool x31)) x31 ?_ ?_
 have h332 := h
 have h := hj32
 refine WC.region ?_
 refine Pu (pt g21 6) (PO.fieldAddr fo28_6 hs24_2 rfl) rfl ?_
 refine Pu (.bool a0.Flag) (PO.loadB 1 pl4 rfl rfl rfl) rfl ?_
 refine Pu (pt g22 6) (PO.fieldAddr fo28_6 hs24_3 rfl) rfl ?_
 refine Pu (.bool a1.Flag) (PO.loadB 0 pl4 rfl rfl rfl) rfl ?_
 refine Pu (.bool (!(a0.Flag == a1.Flag))) (PO.bneq Tryz.underlying4 rfl rfl) rfl ?_
 refine Pm (.bool (!(a0.Flag == a1.Flag))) rfl rfl ?_
 rcases Bool.eq_false_or_eq_true (!(a0.Flag == a1.Flag)) with hb33 | hb33
 have h := ite_t hb33 h
 iterate 5 refine Of 50 rfl rfl hb33 rfl ?_
 refine Pu (.bool true) (PO.pickT rfl hb33 rfl) rfl ?_
 refine Pm (.bool true) rfl rfl ?_
 iterate 5 refine Of 57 rfl rfl rfl rfl ?_
 refine Pu (.bool true) (PO.pickT rfl rfl rfl) rfl ?_
 refine Pm (.bool true) rfl rfl ?_
 iterate 5 refine Of 64 rfl rfl rfl rfl ?_
 refine Pu (.bool true) (PO.pickT rfl rfl rfl) rfl ?_
 refine Pm (.bool true) rfl rfl ?_
 iterate 5 refine Of 71 rfl rfl rfl rfl ?_
 refine Pu (.bool true) (PO.pickT rfl rfl rfl) rfl ?_
 refine Pm (.bool true) rfl rfl ?_
 iterate 5 refine Of 78 rfl rfl rfl rfl ?_
 refine Pu (.bool true) (PO.pickT rfl rfl rfl) rfl ?_
 refine WL.nil ?_
 obtain rfl := Option.some.inj h
 refine WQ.thenJ ?_
 exact ⟨(IM.le.refl _), rfl, hs24_2, hs24_3, rfl⟩
 have h := ite_f hb33 h
 refine On 50 rfl rfl hb33 ?_
 refine Pu (pt g21 7) (PO.fieldAddr fo28_7 hs24_2 rfl) rfl ?_
 refine On 50 rfl rfl hb33 ?_
 refine Pu (.int .i64 a0.Parts) (PO.loadB 1 pl3 rfl rfl rfl) rfl ?_
 refine On 50 rfl rfl hb33 ?_
 refine Pu (pt g22 7) (PO.fieldAddr fo28_7 hs24_3 rfl) rfl ?_
 refine On 50 rfl rfl hb33 ?_
 refine Pu (.int .i64 a1.Parts) (PO.loadB 0 pl3 rfl rfl rfl) rfl ?_
 refine On 50 rfl rfl hb33 ?_
 refine Pu (.bool (decide (a0.Parts ≠ a1.Parts))) (PO.neq rfl rfl) rfl ?_
 refine Pu (.bool (decide (a0.Parts ≠ a1.Parts))) (PO.pickF rfl hb33 rfl) rfl ?_
 refine Pm (.bool (decide (a0.Parts ≠ a1.Parts))) rfl rfl ?_
 rcases Bool.eq_false_or_eq_true (decide (a0.Parts ≠ a1.Parts)) with hb34 | hb34
 have h := ite_t hb34 h
 iterate 5 refine Of 57 rfl rfl hb34 rfl ?_
 refine Pu (.bool true) (PO.pickT rfl hb34 rfl) rfl ?_
 refine Pm (.bool true) rfl rfl ?_
 iterate 5 refine Of 64 rfl rfl rfl rfl ?_
 refine Pu (.bool true) (PO.pickT rfl rfl rfl) rfl ?_
 refine Pm (.bool true) rfl rfl ?_
 iterate 5 refine Of 71 rfl rfl rfl rfl ?_
 refine Pu (.bool true) (PO.pickT rfl rfl rfl) rfl ?_
 refine Pm (.bool true) rfl rfl ?_
 iterate 5 refine Of 78 rfl rfl rfl rfl ?_
 refine Pu (.bool true) (PO.pickT rfl rfl rfl) rfl ?_
 refine WL.nil ?_
 obtain rfl := Option.some.inj h
 refine WQ.thenJ ?_
 exact ⟨(IM.le.refl _), rfl, hs24_2, hs24_3, rfl⟩
 have h := ite_f hb34 h
 refine On 57 rfl rfl hb34 ?_
 refine Pu (pt g21 8) (PO.fieldAddr fo28_8 hs24_2 rfl) rfl ?_
 refine On 57 rfl rfl hb34 ?_
 refine Pu (.int .i64 a0.Replicas) (PO.loadB 1 pl3 rfl rfl rfl) rfl ?_
 refine On 57 rfl rfl hb34 ?_
 refine Pu (pt g22 8) (PO.fieldAddr fo28_8 hs24_3 rfl) rfl ?_
 refine On 57 rfl rfl hb34 ?_
 refine Pu (.int .i64 a1.Replicas) (PO.loadB 0 pl3 rfl rfl rfl) rfl ?_
 refine On 57 rfl rfl hb34 ?_
 refine Pu (.bool (decide (a0.Replicas ≠ a1.Replicas))) (PO.neq rfl rfl) rfl ?_
 refine Pu (.bool (decide (a0.Replicas ≠ a1.Replicas))) (PO.pickF rfl hb34 rfl) rfl ?_
 refine Pm (.bool (decide (a0.Replicas ≠ a1.Replicas))) rfl rfl ?_
 rcases Bool.eq_false_or_eq_true (decide (a0.Replicas ≠ a1.Replicas)) with hb35 | hb35
 have h := ite_t hb35 h
 iterate 5 refine Of 64 rfl rfl hb35 rfl ?_
 refine Pu (.bool true) (PO.pickT rfl hb35 rfl) rfl ?_
 refine Pm (.bool true) rfl rfl ?_
 iterate 5 refine Of 71 rfl rfl rfl rfl ?_
 refine Pu (.bool true) (PO.pickT rfl rfl rfl) rfl ?_
 refine Pm (.bool true) rfl rfl ?_
 iterate 5 refine Of 78 rfl rfl rfl rfl ?_
 refine Pu (.bool true) (PO.pickT rfl rfl rfl) rfl ?_
 refine WL.nil ?_
 obtain rfl := Option.some.inj h
 refine WQ.thenJ ?_
 exact ⟨(IM.le.refl _), rfl, hs24_2, hs24_3, rfl⟩
 have h := ite_f hb35 h
 refine On 64 rfl rfl hb35 ?_
 refine Pu (pt g21 9) (PO.fieldAddr fo28_9 hs24_2 rfl) rfl ?_
 refine On 64 rfl rfl hb35 ?_
 refine Pu (.int .i64 a0.Part) (PO.loadB 1 pl3 rfl rfl rfl) rfl ?_
 refine On 64 rfl rfl hb35 ?_
 refine Pu (pt g22 9) (PO.fieldAddr fo28_9 hs24_3 rfl) rfl ?_
 refine On 64 rfl rfl hb35 ?_
 refine Pu (.int .i64 a1.Part) (PO.loadB 0 pl3 rfl rfl rfl) rfl ?_
 refine On 64 rfl rfl hb35 ?_
 refine Pu (.bool (decide (a0.Part ≠ a1.Part))) (PO.neq rfl rfl) rfl ?_
 refine Pu (.bool (decide (a0.Part ≠ a1.Part))) (PO.pickF rfl hb35 rfl) rfl ?_
 refine Pm (.bool (decide (a0.Part ≠ a1.Part))) rfl rfl ?_
 rcases Bool.eq_false_or_eq_true (decide (a0.Part ≠ a1.Part)) with hb36 | hb36
 have h := ite_t hb36 h
 iterate 5 refine Of 71 rfl rfl hb36 rfl ?_
 refine Pu (.bool true) (PO.pickT rfl hb36 rfl) rfl ?_
 refine Pm (.bool true) rfl rfl ?_
 iterate 5 refine Of 78 rfl rfl rfl rfl ?_
 refine Pu (.bool true) (PO.pickT rfl rfl rfl) rfl ?_
 refine WL.nil ?_
 obtain rfl := Option.some.inj h
 refine WQ.thenJ ?_
 exact ⟨(IM.le.refl _), rfl, hs24_2, hs24_3, rfl⟩
 have h := ite_f hb36 h
 refine On 71 rfl rfl hb36 ?_
 refine Pu (pt g21 11) (PO.fieldAddr fo28_11 hs24_2 rfl) rfl ?_
 refine On 71 rfl rfl hb36 ?_
 refine Pu (.int .i64 a0.Broker) (PO.loadB 1 pl3 rfl rfl rfl) rfl ?_
 refine On 71 rfl rfl hb36 ?_
 refine Pu (pt g22 11) (PO.fieldAddr fo28_11 hs24_3 rfl) rfl ?_
 refine On 71 rfl rfl hb36 ?_
 refine Pu (.int .i64 a1.Broker) (PO.loadB 0 pl3 rfl rfl rfl) rfl ?_
 refine On 71 rfl rfl hb36 ?_
 refine Pu (.bool (decide (a0.Broker ≠ a1.Broker))) (PO.neq rfl rfl) rfl ?_
 refine Pu (.bool (decide (a0.Broker ≠ a1.Broker))) (PO.pickF rfl hb36 rfl) rfl ?_
 refine Pm (.bool (decide (a0.Broker ≠ a1.Broker))) rfl rfl ?_
 rcases Bool.eq_false_or_eq_true (decide (a0.Broker ≠ a1.Broker)) with hb37 | hb37
 have h := ite_t hb37 h
 iterate 5 refine Of 78 rfl rfl hb37 rfl ?_
 refine Pu (.bool true) (PO.pickT rfl hb37 rfl) rfl ?_
 refine WL.nil ?_
 obtain rfl := Option.some.inj h
 refine WQ.thenJ ?_
 exact ⟨(IM.le.refl _), rfl, hs24_2, hs24_3, rfl⟩
 have h := ite_f hb37 h
 refine On 78 rfl rfl hb37 ?_
 refine Pu (pt g21 12) (PO.fieldAddr fo28_12 hs24_2 rfl) rfl ?_
 refine On 78 rfl rfl hb37 ?_
 refine Pu (.int .i64 a0.Epoch) (PO.loadB 1 pl3 rfl rfl rfl) rfl ?_
 refine On 78 rfl rfl hb37 ?_
 refine Pu (pt g22 12) (PO.fieldAddr fo28_12 hs24_3 rfl) rfl ?_
 refine On 78 rfl rfl hb37 ?_
 refine Pu (.int .i64 a1.Epoch) (PO.loadB 0 pl3 rfl rfl rfl) rfl ?_
 refine On 78 rfl rfl hb37 ?_
 refine Pu (.bool (decide (a0.Epoch ≠ a1.Epoch))) (PO.neq rfl rfl) rfl ?_
 refine Pu (.bool (decide (a0.Epoch ≠ a1.Epoch))) (PO.pickF rfl hb37 rfl) rfl ?_
 refine WL.nil ?_
 obtain rfl := Option.some.inj h
 refine WQ.thenJ ?_
 exact ⟨(IM.le.refl _), rfl, hs24_2, hs24_3, rfl⟩
 rintro ρ32 M32 H32 ⟨hle32, rfl, hs32_2, hs32_3, hs32_84⟩
 have h1_10 := h1_10.mono hle32
 have h0_10 := h0_10.mono hle32
 refine WC.cond (b := x31) hs32_84 (fun hb38 => ?_) (fun hb38 => ?_)
 have h := ite_t hb38 h
 refine Sr ?_
 refine Pa (.bool false) rfl rfl ?_
 refine Nt ?_
 refine WC.ret ?_
 refine WQ.thenR ?_
 refine WQ.drop ?_
 refine WQ.drop ?_
 exact WQ.returnsF h [] rfl (results1 rfl rfl) (hle24.trans hle32) ⟨rfl, rfl⟩
 have h := ite_f hb38 h
 refine WC.skip ?_
 refine WQ.thenC ?_
 obtain ⟨x39, hj40, h⟩ := bnd h
 refine WC.joinF (fun (x39 : Bool) ρ' M' H' => M32.le M' ∧ [(g22, .cells (l28 a1 v1_10).toArray 28 (0, 0))] :: [(g21, .cells (l28 a0 v0_10).toArray 28 (0, 0))] :: F = H' ∧ ρ' 4 = (.bool x39)) x39 ?_ ?_
 have h340 := h
 have h := hj40
 refine WC.region ?_
 refine Pu (pt g21 13) (PO.fieldAddr fo28_13 hs32_2 rfl) rfl ?_
 refine Pu (.string a0.Rack) (PO.loadB 1 pl9 rfl rfl rfl) rfl ?_
 refine Pu (pt g22 13) (PO.fieldAddr fo28_13 hs32_3 rfl) rfl ?_
 refine Pu (.string a1.Rack) (PO.loadB 0 pl9 rfl rfl rfl) rfl ?_
 refine Pu (.bool (decide (a0.Rack = a1.Rack))) (PO.seql rfl rfl) rfl ?_
 refine Pm (.bool (decide (a0.Rack = a1.Rack))) rfl rfl ?_
 rcases Bool.eq_false_or_eq_true (decide (a0.Rack = a1.Rack)) with hb41 | hb41
 have h := ite_t hb41 h
 refine On 90 rfl rfl hb41 ?_
 refine Pu (pt g21 14) (PO.fieldAddr fo28_14 hs32_2 rfl) rfl ?_
 refine On 90 rfl rfl hb41 ?_
 refine Pu (a26_ a0.Word) (PO.loadBA (cs := (l26 a0.Word)) 1 ag26 sz26 rfl rfl rfl) rfl ?_
 refine On 90 rfl rfl hb41 ?_
 refine Pu (pt g22 14) (PO.fieldAddr fo28_14 hs32_3 rfl) rfl ?_
 refine On 90 rfl rfl hb41 ?_
 refine Pu (a26_ a1.Word) (PO.loadBA (cs := (l26 a1.Word)) 0 ag26 sz26 rfl rfl rfl) rfl ?_
 refine On 90 rfl rfl hb41 ?_
 refine Pu (.bool (andL [decide (a0.Word.Broker = a1.Word.Broker), decide (a0.Word.Epoch = a1.Word.Epoch), decide (a0.Word.High = a1.Word.High), a0.Word.Fence == a1.Word.Fence, a0.Word.Leave == a1.Word.Leave])) (PO.eqAgg eg26 rfl rfl (run_equal_struct Tryz.underlying26 eq26 (EqFs.cons (by decide) pl3 rfl rfl (EqC.int Tryz.underlying3) (EqFs.cons (by decide) pl3 rfl rfl (EqC.int Tryz.underlying3) (EqFs.cons (by decide) pl3 rfl rfl (EqC.int Tryz.underlying3) (EqFs.cons (by decide) pl4 rfl rfl (EqC.bool Tryz.underlying4) (EqFs.cons (by decide) pl4 rfl rfl (EqC.bool Tryz.underlying4) EqFs.nil))))))) rfl ?_
 refine Pu (.bool (andL [decide (a0.Word.Broker = a1.Word.Broker), decide (a0.Word.Epoch = a1.Word.Epoch), decide (a0.Word.High = a1.Word.High), a0.Word.Fence == a1.Word.Fence, a0.Word.Leave == a1.Word.Leave])) (PO.pickT rfl hb41 rfl) rfl ?_
 refine Pm (.bool (andL [decide (a0.Word.Broker = a1.Word.Broker), decide (a0.Word.Epoch = a1.Word.Epoch), decide (a0.Word.High = a1.Word.High), a0.Word.Fence == a1.Word.Fence, a0.Word.Leave == a1.Word.Leave])) rfl rfl ?_
 rcases Bool.eq_false_or_eq_true (andL [decide (a0.Word.Broker = a1.Word.Broker), decide (a0.Word.Epoch = a1.Word.Epoch), decide (a0.Word.High = a1.Word.High), a0.Word.Fence == a1.Word.Fence, a0.Word.Leave == a1.Word.Leave]) with hb42 | hb42
 have h := ite_t hb42 h
 refine On 97 rfl rfl hb42 ?_
 refine Pu (pt g21 10) (PO.fieldAddr fo28_10 hs32_2 rfl) rfl ?_
 refine On 97 rfl rfl hb42 ?_
 refine Pu v0_10 (PO.loadB 1 pl24 rfl rfl rfl) rfl ?_
 refine On 97 rfl rfl hb42 ?_
 refine Pu (pt g22 10) (PO.fieldAddr fo28_10 hs32_3 rfl) rfl ?_
 refine On 97 rfl rfl hb42 ?_
 refine Pu v1_10 (PO.loadB 0 pl24 rfl rfl rfl) rfl ?_
 refine On 97 rfl rfl hb42 ?_
 obtain ⟨r43, hr44, h⟩ := bnd h
 refine WL.eff (EO.call0 co43 (f_ref02_Ints_ok a0.Ids a1.Ids _ _ _ h0_10 h1_10 r43 hr44) (args2 rfl rfl)) rfl ?_
 rintro _ M45 _ hle46 ⟨_, ⟨rfl, rfl⟩, rfl⟩
 have h0_10 := h0_10.mono hle46
 have h1_10 := h1_10.mono hle46
 refine WL.a0 ?_
 refine Pu (.bool r43) (PO.pickT rfl hb42 rfl) rfl ?_
 refine Pa (.bool r43) rfl rfl ?_
 refine WL.nil ?_
 obtain rfl := Option.some.inj h
 refine WQ.thenJ ?_
 exact ⟨hle46, rfl, rfl⟩
 have h := ite_f hb42 h
 iterate 5 refine Of 97 rfl rfl hb42 rfl ?_
 refine Pu (.bool false) (PO.pickF rfl hb42 rfl) rfl ?_
 refine Pa (.bool false) rfl rfl ?_
 refine WL.nil ?_
 obtain rfl := Option.some.inj h
 refine WQ.thenJ ?_
 exact ⟨(IM.le.refl _), rfl, rfl⟩
 have h := ite_f hb41 h
 iterate 5 refine Of 90 rfl rfl hb41 rfl ?_
 refine Pu (.bool false) (PO.pickF rfl hb41 rfl) rfl ?_
 refine Pm (.bool false) rfl rfl ?_
 iterate 5 refine Of 97 rfl rfl rfl rfl ?_
 refine Pu (.bool false) (PO.pickF rfl rfl rfl) rfl ?_
 refine Pa (.bool false) rfl rfl ?_
 refine WL.nil ?_
 obtain rfl := Option.some.inj h
 refine WQ.thenJ ?_
 exact ⟨(IM.le.refl _), rfl, rfl⟩
 rintro ρ40 M40 H40 ⟨hle40, rfl, hs40_4⟩
 have h1_10 := h1_10.mono hle40
 have h0_10 := h0_10.mono hle40
 refine WC.ret ?_
 refine WQ.drop ?_
 refine WQ.drop ?_
 exact WQ.returnsF h [] rfl (results1 rfl hs40_4) ((hle24.trans hle32).trans hle40) ⟨rfl, rfl⟩


end Go.Proofs.YtjgnbbakamellaaGreatDoor.G
