/- Go functions: what they come to, and that they do. Printed by a program of the session (gen). -/
import Derived.Test.YtmifmgpfjamdkaaDoorTF
import Derived.Test.YtmifmgpfjamdkaaDoorT2
set_option linter.unusedVariables false
set_option linter.unusedSimpArgs false
namespace Go.Proofs.YtmifmgpfjamdkaaDoor.G
open Go Go.KK

noncomputable def f_fault_Of (a0 : GErr) : Option Int :=
  (if a0.isNil = true then (some (0 : Int)) else ((f_errors_As_code a0 (0 : Int)).bind fun (r23, r24) => (if r23 = true then (some r24) else (some (21 : Int)))))
def f_fault_Of_post (a0 : GErr) : Int → Value → IM → HL → Prop :=
  fun (r0 : Int) (v : Value) (M' : IM) (H' : HL) => (.int .i64 r0) = v ∧ H' = []
set_option maxHeartbeats 1000000 in
set_option maxRecDepth 100000 in
theorem f_fault_Of_ok (a0 : GErr) (M : IM) (hE : Env M) (res : Int) (h : f_fault_Of a0 = some res) :
    Tri Tryd.prog 12 #[(GV a0)] M [] (f_fault_Of_post a0 res) := by
 unfold f_fault_Of at h
 refine Tri.enter (fn := Tryd.f12) Tryd.func12 rfl (Nat.le_of_ble_eq_true rfl) ?_
 intro F ρ hρ
 refine Sr ?_
 refine Pa (.int .i64 (0 : Int)) rfl rfl ?_
 refine Nt ?_
 refine WC.seq ?_
 refine Sr ?_
 refine Pm (GV a0) (hρ 0) rfl ?_
 refine Pu (.bool a0.isNil) (PO.errNil Tryd.underlying28 rfl) rfl ?_
 refine Nt ?_
 refine WC.cond (b := a0.isNil) rfl (fun hb21 => ?_) (fun hb21 => ?_)
 have h := ite_t hb21 h
 refine Sr ?_
 refine Pa (.int .i64 (0 : Int)) rfl rfl ?_
 refine Nt ?_
 refine WC.ret ?_
 refine WQ.thenR ?_
 exact WQ.returnsF h [] rfl (results1 rfl rfl) (IM.le.refl _) ⟨rfl, rfl⟩
 have h := ite_f hb21 h
 refine WC.skip ?_
 refine WQ.thenC ?_
 refine Sr ?_
 refine WL.eff (EO.alloc ze35 rfl) rfl ?_
 rintro _ _ _ - ⟨rfl, g22, rfl, rfl⟩
 refine Nt ?_
 refine WC.seq ?_
 refine Sr ?_
 refine Pm (GV a0) (hρ 0) rfl ?_
 refine Pu (.iface 68 (.pointer (some ⟨g22, 0, none⟩))) (PO.makeInterface cc68 rfl) rfl ?_
 obtain ⟨⟨r23, r24⟩, hr25, h⟩ := bnd h
 refine WL.eff (EO.call1 co33 (f_errors_As_code_ok a0 (0 : Int) _ _ hE (r23, r24) hr25) (args2 rfl rfl)) rfl ?_
 rintro _ M26 _ hle27 ⟨_, ⟨rfl, rfl⟩, rfl⟩
 have hE := hE.mono hle27
 refine WL.a1 ?_
 refine Nt ?_
 refine WC.cond (b := r23) rfl (fun hb29 => ?_) (fun hb29 => ?_)
 have h := ite_t hb29 h
 refine Sr ?_
 refine Pu (.int .i64 r24) (PO.loadB 0 pl35 rfl rfl rfl) rfl ?_
 refine Pa (.int .i64 r24) rfl rfl ?_
 refine Nt ?_
 refine WC.ret ?_
 refine WQ.thenR ?_
 refine WQ.drop ?_
 exact WQ.returnsF h [] rfl (results1 rfl rfl) hle27 ⟨rfl, rfl⟩
 have h := ite_f hb29 h
 refine WC.skip ?_
 refine WQ.thenC ?_
 refine Sr ?_
 refine Pa (.int .i64 (21 : Int)) rfl rfl ?_
 refine Nt ?_
 refine WC.ret ?_
 refine WQ.drop ?_
 exact WQ.returnsF h [] rfl (results1 rfl rfl) hle27 ⟨rfl, rfl⟩

noncomputable def f_law13_may (a0 : (List T_api_Span)) : Option Bool :=
  ((f_ref13_Check a0).bind fun (r21, r22) => (((if (decide ((a0.length : Int) ≤ (200 : Int))) = true then (some (decide (r21 = (0 : Int)))) else (some false)) : Option Bool).bind fun (x28 : Bool) => (some x28)))
def f_law13_may_post (a0 : (List T_api_Span)) (v0 : Value) : Bool → Value → IM → HL → Prop :=
  fun (r0 : Bool) (v : Value) (M' : IM) (H' : HL) => (.bool r0) = v ∧ H' = []
set_option maxHeartbeats 1000000 in
set_option maxRecDepth 100000 in
theorem f_law13_may_ok (a0 : (List T_api_Span)) (M : IM) (v0 : Value) (h0 : RS kd_api_Span M v0 a0) (res : Bool) (h : f_law13_may a0 = some res) :
    Tri Tryd.prog 22 #[v0] M [] (f_law13_may_post a0 v0 res) := by
 unfold f_law13_may at h
 refine Tri.enter (fn := Tryd.f22) Tryd.func22 rfl (Nat.le_of_ble_eq_true rfl) ?_
 intro F ρ hρ
 refine Sr ?_
 refine Pa (.bool false) rfl rfl ?_
 refine Ns ?_
 refine Pm v0 (hρ 0) rfl ?_
 obtain ⟨⟨r21, r22⟩, hr23, h⟩ := bnd h
 refine WL.eff (EO.call0 co21 (f_ref13_Check_ok a0 _ _ h0 (r21, r22) hr23) (args1 rfl)) rfl ?_
 rintro _ M24 _ hle25 ⟨_, ⟨rfl, rfl⟩, rfl⟩
 have h0 := h0.mono hle25
 refine WL.a0 ?_
 refine Pm (.tuple #[(.int .i64 r21), (.int .i64 r22)]) rfl rfl ?_
 refine Pu (.int .i64 r21) (PO.extract rfl rfl) rfl ?_
 refine Pu (.int .i64 r22) (PO.extract rfl rfl) rfl ?_
 refine Pa (.int .i64 r21) rfl rfl ?_
 refine Pa (.int .i64 r22) rfl rfl ?_
 refine Nt ?_
 obtain ⟨x28, hj29, h⟩ := bnd h
 refine WC.joinF (fun (x28 : Bool) ρ' M' H' => M24.le M' ∧ F = H' ∧ ρ' 2 = (.bool x28)) x28 ?_ ?_
 have h329 := h
 have h := hj29
 refine WC.region ?_
 refine Pm v0 (hρ 0) rfl ?_
 refine Pu (.int .i64 (a0.length : Int)) (PO.lenS Tryd.underlying45 rfl h0.len) rfl ?_
 refine Pu (.bool (decide ((a0.length : Int) ≤ (200 : Int)))) (PO.leq rfl rfl) rfl ?_
 refine Pm (.bool (decide ((a0.length : Int) ≤ (200 : Int)))) rfl rfl ?_
 rcases Bool.eq_false_or_eq_true (decide ((a0.length : Int) ≤ (200 : Int))) with hb30 | hb30
 have h := ite_t hb30 h
 refine On 13 rfl rfl hb30 ?_
 refine Pm (.int .i64 r21) rfl rfl ?_
 refine On 13 rfl rfl hb30 ?_
 refine Pu (.bool (decide (r21 = (0 : Int)))) (PO.eql rfl rfl) rfl ?_
 refine Pu (.bool (decide (r21 = (0 : Int)))) (PO.pickT rfl hb30 rfl) rfl ?_
 refine Pa (.bool (decide (r21 = (0 : Int)))) rfl rfl ?_
 refine WL.nil ?_
 obtain rfl := Option.some.inj h
 refine WQ.thenJ ?_
 exact ⟨(IM.le.refl _), rfl, rfl⟩
 have h := ite_f hb30 h
 iterate 2 refine Of 13 rfl rfl hb30 rfl ?_
 refine Pu (.bool false) (PO.pickF rfl hb30 rfl) rfl ?_
 refine Pa (.bool false) rfl rfl ?_
 refine WL.nil ?_
 obtain rfl := Option.some.inj h
 refine WQ.thenJ ?_
 exact ⟨(IM.le.refl _), rfl, rfl⟩
 rintro ρ29 M29 H29 ⟨hle29, rfl, hs29_2⟩
 refine WC.ret ?_
 exact WQ.returnsF h [] rfl (results1 rfl hs29_2) (hle25.trans hle29) ⟨rfl, rfl⟩

noncomputable def f_ref13_Add_l0 (a0 : (List T_api_Span)) (a2 : Int) (s_ : ((List T_api_Span) × Int)) : Option (((List T_api_Span) × Int) ⊕ (List T_api_Span)) :=
  match s_ with
  | (x24, x25) =>
    (((if (decide (x25 < (a0.length : Int))) = true then (grd (0 ≤ x25 ∧ x25 < a0.length) (some (decide (((rd a0 x25).Start) < a2)))) else (some false)) : Option Bool).bind fun (x27 : Bool) => (if x27 = true then (grd (0 ≤ x25 ∧ x25 < a0.length) (grd (x24.length + [(rd a0 x25)].length ≤ 274877906944) (some (Sum.inl (x24 ++ [(rd a0 x25)], IntKind.i64.wrap (x25 + (1 : Int))))))) else (some (Sum.inr x24))))
noncomputable def f_ref13_Add (a0 : (List T_api_Span)) (a1 : Int) (a2 : Int) : Option (List T_api_Span) :=
  ((((iter (f_ref13_Add_l0 a0 a2) ([], (0 : Int))).bind (fun (x26 : (List T_api_Span)) => (some x26))) : Option (List T_api_Span)).bind fun (x21 : (List T_api_Span)) => (((((if (decide ((x21.length : Int) = (0 : Int))) = true then (some true) else (grd (0 ≤ IntKind.i64.wrap ((x21.length : Int) - (1 : Int)) ∧ IntKind.i64.wrap ((x21.length : Int) - (1 : Int)) < x21.length) (some (decide (((rd x21 (IntKind.i64.wrap ((x21.length : Int) - (1 : Int)))).Term) < a1))))) : Option Bool).bind fun (x55 : Bool) => (if x55 = true then (grd (x21.length + [(⟨a1, a2⟩ : T_api_Span)].length ≤ 274877906944) (some (x21 ++ [(⟨a1, a2⟩ : T_api_Span)]))) else (some x21))) : Option (List T_api_Span)).bind fun (x53 : (List T_api_Span)) => (some x53)))
def f_ref13_Add_post (a0 : (List T_api_Span)) (a1 : Int) (a2 : Int) (v0 : Value) : (List T_api_Span) → Value → IM → HL → Prop :=
  fun (r0 : (List T_api_Span)) (v : Value) (M' : IM) (H' : HL) => ∃ vz0 cz0, vz0 = v ∧ H' = [cz0] ∧ OwnS kd_api_Span M' vz0 r0 cz0
set_option maxHeartbeats 1000000 in
set_option maxRecDepth 100000 in
theorem f_ref13_Add_ok (a0 : (List T_api_Span)) (a1 : Int) (a2 : Int) (M : IM) (v0 : Value) (h0 : RS kd_api_Span M v0 a0) (res : (List T_api_Span)) (h : f_ref13_Add a0 a1 a2 = some res) :
    Tri Tryd.prog 25 #[v0, (.int .i64 a1), (.int .i64 a2)] M [] (f_ref13_Add_post a0 a1 a2 v0 res) := by
 unfold f_ref13_Add at h
 refine Tri.enter (fn := Tryd.f25) Tryd.func25 rfl (Nat.le_of_ble_eq_true rfl) ?_
 intro F ρ hρ
 refine Sr ?_
 refine Pa (.slice none 0 0) rfl rfl ?_
 refine Ns ?_
 refine Pa (.slice none 0 0) rfl rfl ?_
 refine Nt ?_
 obtain ⟨x21, hj22, h⟩ := bnd h
 refine WC.joinF (fun (x21 : (List T_api_Span)) ρ' M' H' => ∃ vx21 cx21, M.le M' ∧ cx21 :: F = H' ∧ ρ' 1 = (.int .i64 a1) ∧ ρ' 2 = (.int .i64 a2) ∧ ρ' 7 = vx21 ∧ OwnS kd_api_Span M' vx21 x21 cx21) x21 ?_ ?_
 have h322 := h
 have h := hj22
 refine Sr ?_
 refine Pa (.int .i64 (0 : Int)) rfl rfl ?_
 refine Nt ?_
 refine WC.block ?_
 refine WC.e0 ?_
 obtain ⟨e23, he23, hK23⟩ := bnd h
 clear h
 refine WC.loop he23 (fun (p_ : ((List T_api_Span) × Int)) ρ' M' H' => match p_ with | (x24, x25) => ∃ vx24 cx24, M.le M' ∧ cx24 :: F = H' ∧ ρ' 0 = v0 ∧ ρ' 1 = (.int .i64 a1) ∧ ρ' 2 = (.int .i64 a2) ∧ ρ' 7 = vx24 ∧ ρ' 8 = (.int .i64 x25) ∧ OwnS kd_api_Span M' vx24 x24 cx24) ?_ ?_
 exact ⟨(.slice none 0 0), [], (IM.le.refl _), rfl, (hρ 0), (hρ 1), (hρ 2), rfl, rfl, (OwnS.nil _ _)⟩
 rintro ⟨x24, x25⟩ o23 ρ23 M23 H23 h ⟨vx24, cx24, hle23, rfl, hs23_0, hs23_1, hs23_2, hs23_7, hs23_8, hx24⟩
 unfold f_ref13_Add_l0 at h
 have h0 := h0.mono hle23
 refine WC.seq ?_
 obtain ⟨x27, hj28, h⟩ := bnd h
 refine WC.joinF (fun (x27 : Bool) ρ' M' H' => M23.le M' ∧ cx24 :: F = H' ∧ ρ' 0 = v0 ∧ ρ' 1 = (.int .i64 a1) ∧ ρ' 2 = (.int .i64 a2) ∧ ρ' 7 = vx24 ∧ ρ' 8 = (.int .i64 x25) ∧ ρ' 21 = (.bool x27)) x27 ?_ ?_
 have h328 := h
 have h := hj28
 refine WC.region ?_
 refine Pm (.int .i64 x25) hs23_8 rfl ?_
 refine Pm v0 hs23_0 rfl ?_
 refine Pu (.int .i64 (a0.length : Int)) (PO.lenS Tryd.underlying45 rfl h0.len) rfl ?_
 refine Pu (.bool (decide (x25 < (a0.length : Int)))) (PO.lss rfl rfl) rfl ?_
 refine Pm (.bool (decide (x25 < (a0.length : Int)))) rfl rfl ?_
 rcases Bool.eq_false_or_eq_true (decide (x25 < (a0.length : Int))) with hb29 | hb29
 have h := ite_t hb29 h
 refine On 13 rfl rfl hb29 ?_
 refine Pm v0 hs23_0 rfl ?_
 refine On 13 rfl rfl hb29 ?_
 refine Pm (.int .i64 x25) hs23_8 rfl ?_
 refine On 13 rfl rfl hb29 ?_
 obtain ⟨hg30, h⟩ := grd_i h
 obtain ⟨p31, cs32, hat33, hrc34, hhas35⟩ := h0.at hg30.1 hg30.2 (by decide)
 obtain rfl := kd_api_Span_open hrc34
 refine Pu (.pointer (some p31)) (PO.indexAddr (n := a0.length) Tryd.underlying45 sz73 rfl rfl hg30.1 hg30.2 hat33) rfl ?_
 refine On 13 rfl rfl hb29 ?_
 refine Pu (.pointer (some (p31.add 1))) (PO.fieldAddr fo73_1 rfl rfl) rfl ?_
 refine On 13 rfl rfl hb29 ?_
 refine Pu (.int .i64 ((rd a0 x25).Start)) (PO.loadM pl3 rfl (hhas35 1 _ rfl)) rfl ?_
 refine On 13 rfl rfl hb29 ?_
 refine Pm (.int .i64 a2) hs23_2 rfl ?_
 refine On 13 rfl rfl hb29 ?_
 refine Pu (.bool (decide (((rd a0 x25).Start) < a2))) (PO.lss rfl rfl) rfl ?_
 refine Pu (.bool (decide (((rd a0 x25).Start) < a2))) (PO.pickT rfl hb29 rfl) rfl ?_
 refine WL.nil ?_
 obtain rfl := Option.some.inj h
 refine WQ.thenJ ?_
 exact ⟨(IM.le.refl _), rfl, hs23_0, hs23_1, hs23_2, hs23_7, hs23_8, rfl⟩
 have h := ite_f hb29 h
 iterate 7 refine Of 13 rfl rfl hb29 rfl ?_
 refine Pu (.bool false) (PO.pickF rfl hb29 rfl) rfl ?_
 refine WL.nil ?_
 obtain rfl := Option.some.inj h
 refine WQ.thenJ ?_
 exact ⟨(IM.le.refl _), rfl, hs23_0, hs23_1, hs23_2, hs23_7, hs23_8, rfl⟩
 rintro ρ28 M28 H28 ⟨hle28, rfl, hs28_0, hs28_1, hs28_2, hs28_7, hs28_8, hs28_21⟩
 have h0 := h0.mono hle28
 have hx24 := hx24.mono hle28
 refine WC.cond (b := x27) hs28_21 (fun hb37 => ?_) (fun hb37 => ?_)
 have h := ite_t hb37 h
 refine WC.skip ?_
 refine WQ.thenC ?_
 refine WC.seq ?_
 refine WC.block ?_
 refine WC.region ?_
 refine Pm vx24 hs28_7 rfl ?_
 refine Pm v0 hs28_0 rfl ?_
 refine Pm (.int .i64 x25) hs28_8 rfl ?_
 obtain ⟨hg38, h⟩ := grd_i h
 obtain ⟨p39, cs40, hat41, hrc42, hhas43⟩ := h0.at hg38.1 hg38.2 (by decide)
 obtain rfl := kd_api_Span_open hrc42
 refine Pu (.pointer (some p39)) (PO.indexAddr (n := a0.length) Tryd.underlying45 sz73 rfl rfl hg38.1 hg38.2 hat41) rfl ?_
 refine Pu (.agg #[(.int .i64 ((rd a0 x25).Term)), (.int .i64 ((rd a0 x25).Start))]) (PO.loadMA (cs := [(.int .i64 ((rd a0 x25).Term)), (.int .i64 ((rd a0 x25).Start))]) ag73 sz73 rfl hhas43) rfl ?_
 refine WL.eff (EO.buildSliceL (cl := [(.int .i64 ((rd a0 x25).Term)), (.int .i64 ((rd a0 x25).Start))]) Tryd.underlying45 iz73 rfl (Parts.cons (congrArg Value.cells (show ev _ _ = (.agg #[(.int .i64 ((rd a0 x25).Term)), (.int .i64 ((rd a0 x25).Start))]) from rfl)) Parts.nil) rfl) rfl ?_
 rintro _ _ _ - ⟨rfl, g45, rfl, rfl⟩
 have h47 : OwnS kd_api_Span M28 (.slice (some ⟨g45, 0, none⟩) 1 1) [(rd a0 x25)] [(g45, .cells #[(.int .i64 ((rd a0 x25).Term)), (.int .i64 ((rd a0 x25).Start))] 73 (0, 0))] := OwnS.rows (css := [[(.int .i64 ((rd a0 x25).Term)), (.int .i64 ((rd a0 x25).Start))]]) (Rows.cons (kd_api_Span_mk (x := (rd a0 x25))) Rows.nil) rfl rfl
 obtain ⟨hg51, h⟩ := grd_i h
 refine WL.f1 ?_
 refine WL.eff (EO.append (dd := kd_api_Span) (xs := x24) (ys := [(rd a0 x25)]) Tryd.underlying45 Tryd.underlying45 in73 rfl (appB (by decide) hg51) (by decide) rfl rfl hx24 (h47.src 1 rfl)) rfl ?_
 rintro v50 _ _ - ⟨rfl, c48, rfl, h49⟩
 refine Pa v50 rfl rfl ?_
 refine WL.nil ?_
 refine WQ.blockN ?_
 refine WQ.thenC ?_
 refine WC.region ?_
 refine Pm (.int .i64 x25) hs28_8 rfl ?_
 refine Pu (.int .i64 (IntKind.i64.wrap (x25 + (1 : Int)))) (PO.add rfl rfl) rfl ?_
 refine Pa (.int .i64 (IntKind.i64.wrap (x25 + (1 : Int)))) rfl rfl ?_
 refine WL.nil ?_
 refine WQ.f1 ?_
 refine WQ.drop ?_
 refine WQ.again (x24 ++ [(rd a0 x25)], IntKind.i64.wrap (x25 + (1 : Int))) (Option.some.inj h).symm ?_
 exact ⟨v50, c48, (hle23.trans hle28), rfl, hs28_0, hs28_1, hs28_2, rfl, rfl, h49⟩
 have h := ite_f hb37 h
 refine WC.exit ?_
 refine WQ.thenE ?_
 refine WQ.leaveE x24 (Option.some.inj h).symm (fun heq23 => ?_)
 subst heq23
 have h := hK23
 refine WQ.blockH ?_
 obtain rfl := Option.some.inj h
 refine WQ.thenJ ?_
 exact ⟨vx24, cx24, (hle23.trans hle28), rfl, hs28_1, hs28_2, hs28_7, hx24⟩
 rintro ρ22 M22 H22 ⟨vx21, cx21, hle22, rfl, hs22_1, hs22_2, hs22_7, hx21⟩
 obtain ⟨x53, hj54, h⟩ := bnd h
 refine WC.joinF (fun (x53 : (List T_api_Span)) ρ' M' H' => ∃ vx53 cx53, M22.le M' ∧ cx53 :: F = H' ∧ ρ' 7 = vx53 ∧ OwnS kd_api_Span M' vx53 x53 cx53) x53 ?_ ?_
 have h354 := h
 have h := hj54
 obtain ⟨x55, hj56, h⟩ := bnd h
 refine WC.joinF (fun (x55 : Bool) ρ' M' H' => M22.le M' ∧ cx21 :: F = H' ∧ ρ' 1 = (.int .i64 a1) ∧ ρ' 2 = (.int .i64 a2) ∧ ρ' 7 = vx21 ∧ ρ' 44 = (.bool x55)) x55 ?_ ?_
 have h356 := h
 have h := hj56
 refine WC.region ?_
 refine Pm vx21 hs22_7 rfl ?_
 refine Pu (.int .i64 (x21.length : Int)) (PO.lenS Tryd.underlying45 rfl hx21.len) rfl ?_
 refine Pu (.bool (decide ((x21.length : Int) = (0 : Int)))) (PO.eql rfl rfl) rfl ?_
 refine Pm (.bool (decide ((x21.length : Int) = (0 : Int)))) rfl rfl ?_
 rcases Bool.eq_false_or_eq_true (decide ((x21.length : Int) = (0 : Int))) with hb57 | hb57
 have h := ite_t hb57 h
 iterate 9 refine Of 34 rfl rfl hb57 rfl ?_
 refine Pu (.bool true) (PO.pickT rfl hb57 rfl) rfl ?_
 refine WL.nil ?_
 obtain rfl := Option.some.inj h
 refine WQ.thenJ ?_
 exact ⟨(IM.le.refl _), rfl, hs22_1, hs22_2, hs22_7, rfl⟩
 have h := ite_f hb57 h
 refine On 34 rfl rfl hb57 ?_
 refine Pm vx21 hs22_7 rfl ?_
 refine On 34 rfl rfl hb57 ?_
 refine Pm vx21 hs22_7 rfl ?_
 refine On 34 rfl rfl hb57 ?_
 refine Pu (.int .i64 (x21.length : Int)) (PO.lenS Tryd.underlying45 rfl hx21.len) rfl ?_
 refine On 34 rfl rfl hb57 ?_
 refine Pu (.int .i64 (IntKind.i64.wrap ((x21.length : Int) - (1 : Int)))) (PO.sub rfl rfl) rfl ?_
 refine On 34 rfl rfl hb57 ?_
 obtain ⟨hg58, h⟩ := grd_i h
 obtain ⟨p59, cs60, hat61, hrc62, hhas63⟩ := hx21.at hg58.1 hg58.2
 obtain rfl := kd_api_Span_open hrc62
 refine Pu (.pointer (some p59)) (PO.indexAddr (n := x21.length) Tryd.underlying45 sz73 rfl rfl hg58.1 hg58.2 hat61) rfl ?_
 refine On 34 rfl rfl hb57 ?_
 refine Pu (.pointer (some (p59.add 0))) (PO.fieldAddr fo73_0 rfl rfl) rfl ?_
 refine On 34 rfl rfl hb57 ?_
 refine Pu (.int .i64 ((rd x21 (IntKind.i64.wrap ((x21.length : Int) - (1 : Int)))).Term)) (PO.loadC 0 pl3 rfl rfl (chunkHas0 hhas63)) rfl ?_
 refine On 34 rfl rfl hb57 ?_
 refine Pm (.int .i64 a1) hs22_1 rfl ?_
 refine On 34 rfl rfl hb57 ?_
 refine Pu (.bool (decide (((rd x21 (IntKind.i64.wrap ((x21.length : Int) - (1 : Int)))).Term) < a1))) (PO.lss rfl rfl) rfl ?_
 refine Pu (.bool (decide (((rd x21 (IntKind.i64.wrap ((x21.length : Int) - (1 : Int)))).Term) < a1))) (PO.pickF rfl hb57 rfl) rfl ?_
 refine WL.nil ?_
 obtain rfl := Option.some.inj h
 refine WQ.thenJ ?_
 exact ⟨(IM.le.refl _), rfl, hs22_1, hs22_2, hs22_7, rfl⟩
 rintro ρ56 M56 H56 ⟨hle56, rfl, hs56_1, hs56_2, hs56_7, hs56_44⟩
 have hx21 := hx21.mono hle56
 refine WC.cond (b := x55) hs56_44 (fun hb65 => ?_) (fun hb65 => ?_)
 have h := ite_t hb65 h
 refine WC.region ?_
 refine Pm vx21 hs56_7 rfl ?_
 refine Pm (.int .i64 a1) hs56_1 rfl ?_
 refine Pm (.int .i64 a2) hs56_2 rfl ?_
 refine Pu (.agg #[(.int .i64 a1), (.int .i64 a2)]) (PO.buildL (cl := [(.int .i64 a1), (.int .i64 a2)]) ze73 fp73 (Parts.cons (congrArg Value.cells (show ev _ _ = (.int .i64 a1) from rfl)) (Parts.cons (congrArg Value.cells (show ev _ _ = (.int .i64 a2) from rfl)) Parts.nil)) rfl) rfl ?_
 refine WL.eff (EO.buildSliceL (cl := [(.int .i64 a1), (.int .i64 a2)]) Tryd.underlying45 iz73 rfl (Parts.cons (congrArg Value.cells (show ev _ _ = (.agg #[(.int .i64 a1), (.int .i64 a2)]) from rfl)) Parts.nil) rfl) rfl ?_
 rintro _ _ _ - ⟨rfl, g66, rfl, rfl⟩
 have h68 : OwnS kd_api_Span M56 (.slice (some ⟨g66, 0, none⟩) 1 1) [(⟨a1, a2⟩ : T_api_Span)] [(g66, .cells #[(.int .i64 a1), (.int .i64 a2)] 73 (0, 0))] := OwnS.rows (css := [[(.int .i64 a1), (.int .i64 a2)]]) (Rows.cons (kd_api_Span_mk (x := (⟨a1, a2⟩ : T_api_Span))) Rows.nil) rfl rfl
 obtain ⟨hg72, h⟩ := grd_i h
 refine WL.f1 ?_
 refine WL.eff (EO.append (dd := kd_api_Span) (xs := x21) (ys := [(⟨a1, a2⟩ : T_api_Span)]) Tryd.underlying45 Tryd.underlying45 in73 rfl (appB (by decide) hg72) (by decide) rfl rfl hx21 (h68.src 1 rfl)) rfl ?_
 rintro v71 _ _ - ⟨rfl, c69, rfl, h70⟩
 refine Pa v71 rfl rfl ?_
 refine WL.nil ?_
 refine WQ.f1 ?_
 refine WQ.drop ?_
 obtain rfl := Option.some.inj h
 refine WQ.thenJ ?_
 exact ⟨v71, c69, hle56, rfl, rfl, h70⟩
 have h := ite_f hb65 h
 refine WC.skip ?_
 obtain rfl := Option.some.inj h
 refine WQ.thenJ ?_
 exact ⟨vx21, cx21, hle56, rfl, hs56_7, hx21⟩
 rintro ρ54 M54 H54 ⟨vx53, cx53, hle54, rfl, hs54_7, hx53⟩
 refine Sr ?_
 refine Pm vx53 hs54_7 rfl ?_
 refine Pa vx53 rfl rfl ?_
 refine Nt ?_
 refine WC.ret ?_
 exact WQ.returnsF h [cx53] rfl (results1 rfl rfl) (hle22.trans hle54) ⟨vx53, cx53, rfl, rfl, hx53⟩

noncomputable def f_ref13_Same_l0 (a0 : (List T_api_Span)) (a1 : (List T_api_Span)) (s_ : Int) : Option (Int ⊕ (Unit ⊕ Unit)) :=
  match s_ with
  | x24 =>
    (if (decide (x24 < (a0.length : Int))) = true then (grd (0 ≤ x24 ∧ x24 < a0.length) (grd (0 ≤ x24 ∧ x24 < a1.length) (if (!(andL [decide (((rd a0 x24).Term) = ((rd a1 x24).Term)), decide (((rd a0 x24).Start) = ((rd a1 x24).Start))])) = true then (some (Sum.inr (Sum.inr ()))) else (some (Sum.inl (IntKind.i64.wrap (x24 + (1 : Int)))))))) else (some (Sum.inr (Sum.inl ()))))
noncomputable def f_ref13_Same (a0 : (List T_api_Span)) (a1 : (List T_api_Span)) : Option Bool :=
  (if (decide ((a0.length : Int) ≠ (a1.length : Int))) = true then (some false) else ((((iter (f_ref13_Same_l0 a0 a1) (0 : Int)).bind (Sum.elim (fun _ => (some (Sum.inl ()))) (fun _ => (((some false)).bind fun r => some (Sum.inr r))))) : Option (Unit ⊕ Bool)).bind (Sum.elim (fun _ => (some true)) some)))
def f_ref13_Same_post (a0 : (List T_api_Span)) (a1 : (List T_api_Span)) (v0 v1 : Value) : Bool → Value → IM → HL → Prop :=
  fun (r0 : Bool) (v : Value) (M' : IM) (H' : HL) => (.bool r0) = v ∧ H' = []
set_option maxHeartbeats 1000000 in
set_option maxRecDepth 100000 in
theorem f_ref13_Same_ok (a0 : (List T_api_Span)) (a1 : (List T_api_Span)) (M : IM) (v0 v1 : Value) (h0 : RS kd_api_Span M v0 a0) (h1 : RS kd_api_Span M v1 a1) (res : Bool) (h : f_ref13_Same a0 a1 = some res) :
    Tri Tryd.prog 23 #[v0, v1] M [] (f_ref13_Same_post a0 a1 v0 v1 res) := by
 unfold f_ref13_Same at h
 refine Tri.enter (fn := Tryd.f23) Tryd.func23 rfl (Nat.le_of_ble_eq_true rfl) ?_
 intro F ρ hρ
 refine Sr ?_
 refine Pa (.bool false) rfl rfl ?_
 refine Nt ?_
 refine WC.seq ?_
 refine Sr ?_
 refine Pm v0 (hρ 0) rfl ?_
 refine Pu (.int .i64 (a0.length : Int)) (PO.lenS Tryd.underlying45 rfl h0.len) rfl ?_
 refine Pm v1 (hρ 1) rfl ?_
 refine Pu (.int .i64 (a1.length : Int)) (PO.lenS Tryd.underlying45 rfl h1.len) rfl ?_
 refine Pu (.bool (decide ((a0.length : Int) ≠ (a1.length : Int)))) (PO.neq rfl rfl) rfl ?_
 refine Nt ?_
 refine WC.cond (b := decide ((a0.length : Int) ≠ (a1.length : Int))) rfl (fun hb21 => ?_) (fun hb21 => ?_)
 have h := ite_t hb21 h
 refine Sr ?_
 refine Pa (.bool false) rfl rfl ?_
 refine Nt ?_
 refine WC.ret ?_
 refine WQ.thenR ?_
 exact WQ.returnsF h [] rfl (results1 rfl rfl) (IM.le.refl _) ⟨rfl, rfl⟩
 have h := ite_f hb21 h
 refine WC.skip ?_
 refine WQ.thenC ?_
 obtain ⟨j22, hj22, h⟩ := bnd h
 refine WC.joinE (fun (_ : Unit) ρ' M' H' => M.le M' ∧ F = H') j22 ?_ ?_
 have h322 := h
 have h := hj22
 refine Sr ?_
 refine Pa (.int .i64 (0 : Int)) rfl rfl ?_
 refine Nt ?_
 refine WC.block ?_
 obtain ⟨e23, he23, hK23⟩ := bnd h
 clear h
 refine WC.loop he23 (fun (x24 : Int) ρ' M' H' => M.le M' ∧ F = H' ∧ ρ' 0 = v0 ∧ ρ' 1 = v1 ∧ ρ' 5 = (.int .i64 x24)) ?_ ?_
 exact ⟨(IM.le.refl _), rfl, (hρ 0), (hρ 1), rfl⟩
 rintro x24 o23 ρ23 M23 H23 h ⟨hle23, rfl, hs23_0, hs23_1, hs23_5⟩
 unfold f_ref13_Same_l0 at h
 have h0 := h0.mono hle23
 have h1 := h1.mono hle23
 refine WC.seq ?_
 refine Sr ?_
 refine Pm (.int .i64 x24) hs23_5 rfl ?_
 refine Pm v0 hs23_0 rfl ?_
 refine Pu (.int .i64 (a0.length : Int)) (PO.lenS Tryd.underlying45 rfl h0.len) rfl ?_
 refine Pu (.bool (decide (x24 < (a0.length : Int)))) (PO.lss rfl rfl) rfl ?_
 refine Nt ?_
 refine WC.cond (b := decide (x24 < (a0.length : Int))) rfl (fun hb25 => ?_) (fun hb25 => ?_)
 have h := ite_t hb25 h
 refine WC.skip ?_
 refine WQ.thenC ?_
 refine WC.seq ?_
 refine WC.block ?_
 refine WC.seq ?_
 refine WC.draw [0, 0, 3, 7, 0, 0, 48, 112, 255] (.pure 0 (.pure 1 (.pure 2 (.pure 3 (.pure 4 (.pure 5 (.pure 6 (.pure 7 (.pure 8 .done))))))))) mixed (by kernel_rfl) ?_
 refine Tp v0 rfl (PO.move hs23_0) rfl ?_
 refine Tp (.int .i64 x24) rfl (PO.move hs23_5) rfl ?_
 obtain ⟨hg26, h⟩ := grd_i h
 obtain ⟨p27, cs28, hat29, hrc30, hhas31⟩ := h0.at hg26.1 hg26.2 (by decide)
 obtain rfl := kd_api_Span_open hrc30
 refine Tp (.pointer (some p27)) rfl (PO.indexAddr (n := a0.length) Tryd.underlying45 sz73 rfl rfl hg26.1 hg26.2 hat29) rfl ?_
 refine Tp (.agg #[(.int .i64 ((rd a0 x24).Term)), (.int .i64 ((rd a0 x24).Start))]) rfl (PO.loadMA (cs := [(.int .i64 ((rd a0 x24).Term)), (.int .i64 ((rd a0 x24).Start))]) ag73 sz73 rfl hhas31) rfl ?_
 refine Tp v1 rfl (PO.move hs23_1) rfl ?_
 refine Tp (.int .i64 x24) rfl (PO.move hs23_5) rfl ?_
 obtain ⟨hg33, h⟩ := grd_i h
 obtain ⟨p34, cs35, hat36, hrc37, hhas38⟩ := h1.at hg33.1 hg33.2 (by decide)
 obtain rfl := kd_api_Span_open hrc37
 refine Tp (.pointer (some p34)) rfl (PO.indexAddr (n := a1.length) Tryd.underlying45 sz73 rfl rfl hg33.1 hg33.2 hat36) rfl ?_
 refine Tp (.agg #[(.int .i64 ((rd a1 x24).Term)), (.int .i64 ((rd a1 x24).Start))]) rfl (PO.loadMA (cs := [(.int .i64 ((rd a1 x24).Term)), (.int .i64 ((rd a1 x24).Start))]) ag73 sz73 rfl hhas38) rfl ?_
 refine Tp (.bool (!(andL [decide (((rd a0 x24).Term) = ((rd a1 x24).Term)), decide (((rd a0 x24).Start) = ((rd a1 x24).Start))]))) rfl (PO.neqAgg eg73 rfl rfl (run_equal_struct Tryd.underlying73 eq73 (EqFs.cons (by decide) pl3 rfl rfl (EqC.int Tryd.underlying3) (EqFs.cons (by decide) pl3 rfl rfl (EqC.int Tryd.underlying3) EqFs.nil)))) rfl ?_
 refine WT.fin ?_
 refine WQ.thenC ?_
 refine WC.cond (b := !(andL [decide (((rd a0 x24).Term) = ((rd a1 x24).Term)), decide (((rd a0 x24).Start) = ((rd a1 x24).Start))])) rfl (fun hb40 => ?_) (fun hb40 => ?_)
 have h := ite_t hb40 h
 refine Sr ?_
 refine Pa (.bool false) rfl rfl ?_
 refine Nt ?_
 refine WC.ret ?_
 refine WQ.blockR ?_
 refine WQ.thenR ?_
 refine WQ.leaveR (Sum.inr ()) (Option.some.inj h).symm (fun heq23 => ?_)
 subst heq23
 have h := (elimR hK23)
 refine WQ.blockR ?_
 refine WQ.thenR ?_
 have h := KK.early h h322
 exact WQ.returnsF h [] rfl (results1 rfl rfl) hle23 ⟨rfl, rfl⟩
 have h := ite_f hb40 h
 refine WC.skip ?_
 refine WQ.blockN ?_
 refine WQ.thenC ?_
 refine WC.region ?_
 refine Pm (.int .i64 x24) hs23_5 rfl ?_
 refine Pu (.int .i64 (IntKind.i64.wrap (x24 + (1 : Int)))) (PO.add rfl rfl) rfl ?_
 refine Pa (.int .i64 (IntKind.i64.wrap (x24 + (1 : Int)))) rfl rfl ?_
 refine WL.nil ?_
 refine WQ.again (IntKind.i64.wrap (x24 + (1 : Int))) (Option.some.inj h).symm ?_
 exact ⟨hle23, rfl, hs23_0, hs23_1, rfl⟩
 have h := ite_f hb25 h
 refine WC.exit ?_
 refine WQ.thenE ?_
 refine WQ.leaveE (Sum.inl ()) (Option.some.inj h).symm (fun heq23 => ?_)
 subst heq23
 have h := elimL hK23
 refine WQ.blockH ?_
 refine WQ.thenFE h ?_
 exact ⟨hle23, rfl⟩
 rintro _ ρ22 M22 H22 rfl ⟨hle22, rfl⟩
 refine Sr ?_
 refine Pa (.bool true) rfl rfl ?_
 refine Nt ?_
 refine WC.ret ?_
 exact WQ.returnsF h [] rfl (results1 rfl rfl) hle22 ⟨rfl, rfl⟩

noncomputable def f_law13_terms_l0 (a0 : (List Int)) (s_ : ((List T_api_Batch) × Int)) : Option (((List T_api_Batch) × Int) ⊕ (List T_api_Batch)) :=
  match s_ with
  | (x24, x25) =>
    (if (decide (x25 < (a0.length : Int))) = true then (grd (0 ≤ x25 ∧ x25 < a0.length) (grd (x24.length + [(⟨IntKind.i64.wrap (rd a0 x25), (0 : Int), []⟩ : T_api_Batch)].length ≤ 274877906944) (some (Sum.inl (x24 ++ [(⟨IntKind.i64.wrap (rd a0 x25), (0 : Int), []⟩ : T_api_Batch)], IntKind.i64.wrap (x25 + (1 : Int))))))) else (some (Sum.inr x24)))
noncomputable def f_law13_terms (a0 : (List Int)) : Option (List T_api_Batch) :=
  ((((iter (f_law13_terms_l0 a0) ([], (0 : Int))).bind (fun (x26 : (List T_api_Batch)) => (some x26))) : Option (List T_api_Batch)).bind fun (x21 : (List T_api_Batch)) => (some x21))
def f_law13_terms_post (a0 : (List Int)) (v0 : Value) : (List T_api_Batch) → Value → IM → HL → Prop :=
  fun (r0 : (List T_api_Batch)) (v : Value) (M' : IM) (H' : HL) => ∃ vz0 cz0, vz0 = v ∧ H' = [cz0] ∧ OwnS kd_api_Batch M' vz0 r0 cz0
set_option maxHeartbeats 1000000 in
set_option maxRecDepth 100000 in
theorem f_law13_terms_ok (a0 : (List Int)) (M : IM) (v0 : Value) (h0 : RS (Kd.int .u8) M v0 a0) (res : (List T_api_Batch)) (h : f_law13_terms a0 = some res) :
    Tri Tryd.prog 27 #[v0] M [] (f_law13_terms_post a0 v0 res) := by
 unfold f_law13_terms at h
 refine Tri.enter (fn := Tryd.f27) Tryd.func27 rfl (Nat.le_of_ble_eq_true rfl) ?_
 intro F ρ hρ
 refine Sr ?_
 refine Pa (.slice none 0 0) rfl rfl ?_
 refine Ns ?_
 refine Pa (.slice none 0 0) rfl rfl ?_
 refine Nt ?_
 obtain ⟨x21, hj22, h⟩ := bnd h
 refine WC.joinF (fun (x21 : (List T_api_Batch)) ρ' M' H' => ∃ vx21 cx21, M.le M' ∧ cx21 :: F = H' ∧ ρ' 3 = vx21 ∧ OwnS kd_api_Batch M' vx21 x21 cx21) x21 ?_ ?_
 have h322 := h
 have h := hj22
 refine Sr ?_
 refine Pa (.int .i64 (0 : Int)) rfl rfl ?_
 refine Nt ?_
 refine WC.block ?_
 refine WC.e0 ?_
 obtain ⟨e23, he23, hK23⟩ := bnd h
 clear h
 refine WC.loop he23 (fun (p_ : ((List T_api_Batch) × Int)) ρ' M' H' => match p_ with | (x24, x25) => ∃ vx24 cx24, M.le M' ∧ cx24 :: F = H' ∧ ρ' 0 = v0 ∧ ρ' 3 = vx24 ∧ ρ' 4 = (.int .i64 x25) ∧ OwnS kd_api_Batch M' vx24 x24 cx24) ?_ ?_
 exact ⟨(.slice none 0 0), [], (IM.le.refl _), rfl, (hρ 0), rfl, rfl, (OwnS.nil _ _)⟩
 rintro ⟨x24, x25⟩ o23 ρ23 M23 H23 h ⟨vx24, cx24, hle23, rfl, hs23_0, hs23_3, hs23_4, hx24⟩
 unfold f_law13_terms_l0 at h
 have h0 := h0.mono hle23
 refine WC.seq ?_
 refine Sr ?_
 refine Pm (.int .i64 x25) hs23_4 rfl ?_
 refine Pm v0 hs23_0 rfl ?_
 refine Pu (.int .i64 (a0.length : Int)) (PO.lenS Tryd.underlying47 rfl h0.len) rfl ?_
 refine Pu (.bool (decide (x25 < (a0.length : Int)))) (PO.lss rfl rfl) rfl ?_
 refine Nt ?_
 refine WC.cond (b := decide (x25 < (a0.length : Int))) rfl (fun hb27 => ?_) (fun hb27 => ?_)
 have h := ite_t hb27 h
 refine WC.skip ?_
 refine WQ.thenC ?_
 refine WC.seq ?_
 refine WC.block ?_
 refine WC.region ?_
 refine Pm vx24 hs23_3 rfl ?_
 refine Pm v0 hs23_0 rfl ?_
 refine Pm (.int .i64 x25) hs23_4 rfl ?_
 obtain ⟨hg28, h⟩ := grd_i h
 obtain ⟨p29, cs30, hat31, hrc32, hhas33⟩ := h0.at hg28.1 hg28.2 (by decide)
 obtain rfl := hrc32
 refine Pu (.pointer (some p29)) (PO.indexAddr (n := a0.length) Tryd.underlying47 sz5 rfl rfl hg28.1 hg28.2 hat31) rfl ?_
 refine Pu (.int .u8 (rd a0 x25)) (PO.loadM pl5 rfl (IM.has0 hhas33)) rfl ?_
 refine Pu (.int .i64 (IntKind.i64.wrap (rd a0 x25))) (PO.conv us5 Tryd.underlying3 rfl) rfl ?_
 refine Pu (.agg #[(.int .i64 (IntKind.i64.wrap (rd a0 x25))), (.int .i64 (0 : Int)), (.slice none 0 0)]) (PO.buildL (cl := [(.int .i64 (IntKind.i64.wrap (rd a0 x25))), (.int .i64 (0 : Int)), (.slice none 0 0)]) ze81 fp81 (Parts.cons (congrArg Value.cells (show ev _ _ = (.int .i64 (IntKind.i64.wrap (rd a0 x25))) from rfl)) Parts.nil) rfl) rfl ?_
 refine WL.eff (EO.buildSliceL (cl := [(.int .i64 (IntKind.i64.wrap (rd a0 x25))), (.int .i64 (0 : Int)), (.slice none 0 0)]) Tryd.underlying55 iz81 rfl (Parts.cons (congrArg Value.cells (show ev _ _ = (.agg #[(.int .i64 (IntKind.i64.wrap (rd a0 x25))), (.int .i64 (0 : Int)), (.slice none 0 0)]) from rfl)) Parts.nil) rfl) rfl ?_
 rintro _ _ _ - ⟨rfl, g35, rfl, rfl⟩
 have h37 : OwnS kd_api_Batch M23 (.slice (some ⟨g35, 0, none⟩) 1 1) [(⟨IntKind.i64.wrap (rd a0 x25), (0 : Int), []⟩ : T_api_Batch)] [(g35, .cells #[(.int .i64 (IntKind.i64.wrap (rd a0 x25))), (.int .i64 (0 : Int)), (.slice none 0 0)] 81 (0, 0))] := OwnS.rows (css := [[(.int .i64 (IntKind.i64.wrap (rd a0 x25))), (.int .i64 (0 : Int)), (.slice none 0 0)]]) (Rows.cons (kd_api_Batch_mk (x := (⟨IntKind.i64.wrap (rd a0 x25), (0 : Int), []⟩ : T_api_Batch)) (RS.nil _ _)) Rows.nil) rfl rfl
 obtain ⟨hg41, h⟩ := grd_i h
 refine WL.f1 ?_
 refine WL.eff (EO.append (dd := kd_api_Batch) (xs := x24) (ys := [(⟨IntKind.i64.wrap (rd a0 x25), (0 : Int), []⟩ : T_api_Batch)]) Tryd.underlying55 Tryd.underlying55 in81 rfl (appB (by decide) hg41) (by decide) rfl rfl hx24 (h37.src 1 rfl)) rfl ?_
 rintro v40 _ _ - ⟨rfl, c38, rfl, h39⟩
 refine Pa v40 rfl rfl ?_
 refine WL.nil ?_
 refine WQ.blockN ?_
 refine WQ.thenC ?_
 refine WC.region ?_
 refine Pm (.int .i64 x25) hs23_4 rfl ?_
 refine Pu (.int .i64 (IntKind.i64.wrap (x25 + (1 : Int)))) (PO.add rfl rfl) rfl ?_
 refine Pa (.int .i64 (IntKind.i64.wrap (x25 + (1 : Int)))) rfl rfl ?_
 refine WL.nil ?_
 refine WQ.f1 ?_
 refine WQ.drop ?_
 refine WQ.again (x24 ++ [(⟨IntKind.i64.wrap (rd a0 x25), (0 : Int), []⟩ : T_api_Batch)], IntKind.i64.wrap (x25 + (1 : Int))) (Option.some.inj h).symm ?_
 exact ⟨v40, c38, hle23, rfl, hs23_0, rfl, rfl, h39⟩
 have h := ite_f hb27 h
 refine WC.exit ?_
 refine WQ.thenE ?_
 refine WQ.leaveE x24 (Option.some.inj h).symm (fun heq23 => ?_)
 subst heq23
 have h := hK23
 refine WQ.blockH ?_
 obtain rfl := Option.some.inj h
 refine WQ.thenJ ?_
 exact ⟨vx24, cx24, hle23, rfl, hs23_3, hx24⟩
 rintro ρ22 M22 H22 ⟨vx21, cx21, hle22, rfl, hs22_3, hx21⟩
 refine Sr ?_
 refine Pm vx21 hs22_3 rfl ?_
 refine Pa vx21 rfl rfl ?_
 refine Nt ?_
 refine WC.ret ?_
 exact WQ.returnsF h [cx21] rfl (results1 rfl rfl) hle22 ⟨vx21, cx21, rfl, rfl, hx21⟩

noncomputable def f_spans_Of_l0 (a0 : Int) (a2 : (List T_api_Batch)) (s_ : ((List T_api_Span) × Int)) : Option (((List T_api_Span) × Int) ⊕ (List T_api_Span)) :=
  match s_ with
  | (x36, x37) =>
    (if (decide (x37 < (a2.length : Int))) = true then (grd (0 ≤ x37 ∧ x37 < a2.length) ((f_spans_Add x36 ((rd a2 x37).Term) (IntKind.i64.wrap (a0 + x37))).bind fun (r47 : (List T_api_Span)) => (some (Sum.inl (r47, IntKind.i64.wrap (x37 + (1 : Int))))))) else (some (Sum.inr x36)))
noncomputable def f_spans_Of (a0 : Int) (a1 : Int) (a2 : (List T_api_Batch)) : Option (List T_api_Span) :=
  (((if (decide ((0 : Int) < a0)) = true then (grd (([] : List T_api_Span).length + [(⟨a1, IntKind.i64.wrap (a0 - (1 : Int))⟩ : T_api_Span)].length ≤ 274877906944) (some (([] : List T_api_Span) ++ [(⟨a1, IntKind.i64.wrap (a0 - (1 : Int))⟩ : T_api_Span)]))) else (some [])) : Option (List T_api_Span)).bind fun (x21 : (List T_api_Span)) => ((((iter (f_spans_Of_l0 a0 a2) (x21, (0 : Int))).bind (fun (x38 : (List T_api_Span)) => (some x38))) : Option (List T_api_Span)).bind fun (x33 : (List T_api_Span)) => (some x33)))
def f_spans_Of_post (a0 : Int) (a1 : Int) (a2 : (List T_api_Batch)) (v2 : Value) : (List T_api_Span) → Value → IM → HL → Prop :=
  fun (r0 : (List T_api_Span)) (v : Value) (M' : IM) (H' : HL) => ∃ vz0 cz0, vz0 = v ∧ H' = [cz0] ∧ OwnS kd_api_Span M' vz0 r0 cz0
set_option maxHeartbeats 1000000 in
set_option maxRecDepth 100000 in
theorem f_spans_Of_ok (a0 : Int) (a1 : Int) (a2 : (List T_api_Batch)) (M : IM) (v2 : Value) (h2 : RS kd_api_Batch M v2 a2) (res : (List T_api_Span)) (h : f_spans_Of a0 a1 a2 = some res) :
    Tri Tryd.prog 26 #[(.int .i64 a0), (.int .i64 a1), v2] M [] (f_spans_Of_post a0 a1 a2 v2 res) := by
 unfold f_spans_Of at h
 refine Tri.enter (fn := Tryd.f26) Tryd.func26 rfl (Nat.le_of_ble_eq_true rfl) ?_
 intro F ρ hρ
 refine Sr ?_
 refine Pa (.slice none 0 0) rfl rfl ?_
 refine Ns ?_
 refine Pa (.slice none 0 0) rfl rfl ?_
 refine Nt ?_
 obtain ⟨x21, hj22, h⟩ := bnd h
 refine WC.joinF (fun (x21 : (List T_api_Span)) ρ' M' H' => ∃ vx21 cx21, M.le M' ∧ cx21 :: F = H' ∧ ρ' 0 = (.int .i64 a0) ∧ ρ' 2 = v2 ∧ ρ' 7 = vx21 ∧ OwnS kd_api_Span M' vx21 x21 cx21) x21 ?_ ?_
 have h322 := h
 have h := hj22
 refine Sr ?_
 refine Pm (.int .i64 a0) (hρ 0) rfl ?_
 refine Pu (.bool (decide ((0 : Int) < a0))) (PO.gtr rfl rfl) rfl ?_
 refine Nt ?_
 refine WC.cond (b := decide ((0 : Int) < a0)) rfl (fun hb23 => ?_) (fun hb23 => ?_)
 have h := ite_t hb23 h
 refine WC.region ?_
 refine Pm (.slice none 0 0) rfl rfl ?_
 refine Pm (.int .i64 a1) (hρ 1) rfl ?_
 refine Pm (.int .i64 a0) (hρ 0) rfl ?_
 refine Pu (.int .i64 (IntKind.i64.wrap (a0 - (1 : Int)))) (PO.sub rfl rfl) rfl ?_
 refine Pu (.agg #[(.int .i64 a1), (.int .i64 (IntKind.i64.wrap (a0 - (1 : Int))))]) (PO.buildL (cl := [(.int .i64 a1), (.int .i64 (IntKind.i64.wrap (a0 - (1 : Int))))]) ze73 fp73 (Parts.cons (congrArg Value.cells (show ev _ _ = (.int .i64 a1) from rfl)) (Parts.cons (congrArg Value.cells (show ev _ _ = (.int .i64 (IntKind.i64.wrap (a0 - (1 : Int)))) from rfl)) Parts.nil)) rfl) rfl ?_
 refine WL.eff (EO.buildSliceL (cl := [(.int .i64 a1), (.int .i64 (IntKind.i64.wrap (a0 - (1 : Int))))]) Tryd.underlying45 iz73 rfl (Parts.cons (congrArg Value.cells (show ev _ _ = (.agg #[(.int .i64 a1), (.int .i64 (IntKind.i64.wrap (a0 - (1 : Int))))]) from rfl)) Parts.nil) rfl) rfl ?_
 rintro _ _ _ - ⟨rfl, g24, rfl, rfl⟩
 have h26 : OwnS kd_api_Span M (.slice (some ⟨g24, 0, none⟩) 1 1) [(⟨a1, IntKind.i64.wrap (a0 - (1 : Int))⟩ : T_api_Span)] [(g24, .cells #[(.int .i64 a1), (.int .i64 (IntKind.i64.wrap (a0 - (1 : Int))))] 73 (0, 0))] := OwnS.rows (css := [[(.int .i64 a1), (.int .i64 (IntKind.i64.wrap (a0 - (1 : Int))))]]) (Rows.cons (kd_api_Span_mk (x := (⟨a1, IntKind.i64.wrap (a0 - (1 : Int))⟩ : T_api_Span))) Rows.nil) rfl rfl
 obtain ⟨hg31, h⟩ := grd_i h
 refine WL.e0 ?_
 refine WL.eff (EO.append (dd := kd_api_Span) (xs := []) (ys := [(⟨a1, IntKind.i64.wrap (a0 - (1 : Int))⟩ : T_api_Span)]) Tryd.underlying45 Tryd.underlying45 in73 rfl (appB (by decide) hg31) (by decide) rfl rfl (OwnS.nil _ _) (h26.src 1 rfl)) rfl ?_
 rintro v30 _ _ - ⟨rfl, c28, rfl, h29⟩
 refine Pa v30 rfl rfl ?_
 refine WL.nil ?_
 refine WQ.f1 ?_
 refine WQ.drop ?_
 obtain rfl := Option.some.inj h
 refine WQ.thenJ ?_
 exact ⟨v30, c28, (IM.le.refl _), rfl, (hρ 0), (hρ 2), rfl, h29⟩
 have h := ite_f hb23 h
 refine WC.skip ?_
 refine WQ.e0 ?_
 obtain rfl := Option.some.inj h
 refine WQ.thenJ ?_
 exact ⟨(.slice none 0 0), [], (IM.le.refl _), rfl, (hρ 0), (hρ 2), rfl, (OwnS.nil _ _)⟩
 rintro ρ22 M22 H22 ⟨vx21, cx21, hle22, rfl, hs22_0, hs22_2, hs22_7, hx21⟩
 have h2 := h2.mono hle22
 obtain ⟨x33, hj34, h⟩ := bnd h
 refine WC.joinF (fun (x33 : (List T_api_Span)) ρ' M' H' => ∃ vx33 cx33, M22.le M' ∧ cx33 :: F = H' ∧ ρ' 7 = vx33 ∧ OwnS kd_api_Span M' vx33 x33 cx33) x33 ?_ ?_
 have h334 := h
 have h := hj34
 refine Sr ?_
 refine Pm v2 hs22_2 rfl ?_
 refine Pu (.int .i64 (a2.length : Int)) (PO.lenS Tryd.underlying55 rfl h2.len) rfl ?_
 refine Pm (.int .i64 (0 : Int)) rfl rfl ?_
 refine Nt ?_
 refine WC.block ?_
 obtain ⟨e35, he35, hK35⟩ := bnd h
 clear h
 refine WC.loop he35 (fun (p_ : ((List T_api_Span) × Int)) ρ' M' H' => match p_ with | (x36, x37) => ∃ vx36 cx36, M22.le M' ∧ cx36 :: F = H' ∧ ρ' 0 = (.int .i64 a0) ∧ ρ' 2 = v2 ∧ ρ' 7 = vx36 ∧ ρ' 19 = (.int .i64 (a2.length : Int)) ∧ ρ' 20 = (.int .i64 x37) ∧ OwnS kd_api_Span M' vx36 x36 cx36) ?_ ?_
 exact ⟨vx21, cx21, (IM.le.refl _), rfl, hs22_0, hs22_2, hs22_7, rfl, rfl, hx21⟩
 rintro ⟨x36, x37⟩ o35 ρ35 M35 H35 h ⟨vx36, cx36, hle35, rfl, hs35_0, hs35_2, hs35_7, hs35_19, hs35_20, hx36⟩
 unfold f_spans_Of_l0 at h
 have h2 := h2.mono hle35
 refine Sr ?_
 refine Pu (.bool (decide (x37 < (a2.length : Int)))) (PO.lss hs35_20 hs35_19) rfl ?_
 refine Nt ?_
 refine WC.seq ?_
 refine WC.cond (b := decide (x37 < (a2.length : Int))) rfl (fun hb39 => ?_) (fun hb39 => ?_)
 have h := ite_t hb39 h
 refine WC.skip ?_
 refine WQ.thenC ?_
 refine WC.seq ?_
 refine WC.block ?_
 refine Sr ?_
 refine Pm (.int .i64 x37) hs35_20 rfl ?_
 refine Pa (.int .i64 x37) rfl rfl ?_
 refine Nt ?_
 refine WC.region ?_
 refine Pm vx36 hs35_7 rfl ?_
 refine Pm v2 hs35_2 rfl ?_
 refine Pm (.int .i64 x37) rfl rfl ?_
 obtain ⟨hg40, h⟩ := grd_i h
 obtain ⟨p41, cs42, hat43, hrc44, hhas45⟩ := h2.at hg40.1 hg40.2 (by decide)
 obtain ⟨vw46_2, rfl, hw46_2⟩ := kd_api_Batch_open hrc44
 refine Pu (.pointer (some p41)) (PO.indexAddr (n := a2.length) Tryd.underlying55 sz81 rfl rfl hg40.1 hg40.2 hat43) rfl ?_
 refine Pu (.pointer (some (p41.add 0))) (PO.fieldAddr fo81_0 rfl rfl) rfl ?_
 refine Pu (.int .i64 ((rd a2 x37).Term)) (PO.loadM pl3 rfl (IM.has0 hhas45)) rfl ?_
 refine Pm (.int .i64 a0) hs35_0 rfl ?_
 refine Pm (.int .i64 x37) rfl rfl ?_
 refine Pu (.int .i64 (IntKind.i64.wrap (a0 + x37))) (PO.add rfl rfl) rfl ?_
 obtain ⟨r47, hr48, h⟩ := bnd h
 refine WL.eff (EO.call1 co24 (Tri.lend fun w0_ H0_ hs0_ => (f_spans_Add_ok x36 ((rd a2 x37).Term) (IntKind.i64.wrap (a0 + x37)) _ _ (hx36.rs hs0_) r47 hr48)) (args3 rfl rfl rfl)) rfl ?_
 rintro _ _ _ hle50 ⟨_, ⟨Ml52, Hl53, hll54, rfl, rfl, ⟨vq51, cq51, rfl, rfl, hq51⟩⟩, rfl⟩
 have h2 := h2.mono hle50
 have hx36 := hx36.mono hle50
 have hq51 : OwnS kd_api_Span (Ml52.minus cx36) vq51 r47 cq51 := hq51.any kd_api_Span_flat
 refine WL.a2 ?_
 refine Pa vq51 rfl rfl ?_
 refine WL.nil ?_
 refine WQ.blockN ?_
 refine WQ.thenC ?_
 refine WC.region ?_
 refine Pu (.int .i64 (IntKind.i64.wrap (x37 + (1 : Int)))) (PO.add hs35_20 rfl) rfl ?_
 refine Pm (.int .i64 (IntKind.i64.wrap (x37 + (1 : Int)))) rfl rfl ?_
 refine WL.nil ?_
 refine WQ.drop ?_
 refine WQ.again (r47, IntKind.i64.wrap (x37 + (1 : Int))) (Option.some.inj h).symm ?_
 exact ⟨vq51, cq51, (hle35.trans hle50), rfl, hs35_0, hs35_2, rfl, hs35_19, rfl, hq51⟩
 have h := ite_f hb39 h
 refine WC.exit ?_
 refine WQ.thenE ?_
 refine WQ.leaveE x36 (Option.some.inj h).symm (fun heq35 => ?_)
 subst heq35
 have h := hK35
 refine WQ.blockH ?_
 obtain rfl := Option.some.inj h
 refine WQ.thenJ ?_
 exact ⟨vx36, cx36, hle35, rfl, hs35_7, hx36⟩
 rintro ρ34 M34 H34 ⟨vx33, cx33, hle34, rfl, hs34_7, hx33⟩
 refine Sr ?_
 refine Pm vx33 hs34_7 rfl ?_
 refine Pa vx33 rfl rfl ?_
 refine Nt ?_
 refine WC.ret ?_
 exact WQ.returnsF h [cx33] rfl (results1 rfl rfl) (hle22.trans hle34) ⟨vx33, cx33, rfl, rfl, hx33⟩

noncomputable def f_ref13_Of_l0 (a0 : Int) (a2 : (List T_api_Batch)) (s_ : ((List T_api_Span) × Int)) : Option (((List T_api_Span) × Int) ⊕ (List T_api_Span)) :=
  match s_ with
  | (x36, x37) =>
    (if (decide (x37 < (a2.length : Int))) = true then (grd (0 ≤ x37 ∧ x37 < a2.length) ((f_ref13_Add x36 ((rd a2 x37).Term) (IntKind.i64.wrap (a0 + x37))).bind fun (r47 : (List T_api_Span)) => (some (Sum.inl (r47, IntKind.i64.wrap (x37 + (1 : Int))))))) else (some (Sum.inr x36)))
noncomputable def f_ref13_Of (a0 : Int) (a1 : Int) (a2 : (List T_api_Batch)) : Option (List T_api_Span) :=
  (((if (decide ((0 : Int) < a0)) = true then (grd (([] : List T_api_Span).length + [(⟨a1, IntKind.i64.wrap (a0 - (1 : Int))⟩ : T_api_Span)].length ≤ 274877906944) (some (([] : List T_api_Span) ++ [(⟨a1, IntKind.i64.wrap (a0 - (1 : Int))⟩ : T_api_Span)]))) else (some [])) : Option (List T_api_Span)).bind fun (x21 : (List T_api_Span)) => ((((iter (f_ref13_Of_l0 a0 a2) (x21, (0 : Int))).bind (fun (x38 : (List T_api_Span)) => (some x38))) : Option (List T_api_Span)).bind fun (x33 : (List T_api_Span)) => (some x33)))
def f_ref13_Of_post (a0 : Int) (a1 : Int) (a2 : (List T_api_Batch)) (v2 : Value) : (List T_api_Span) → Value → IM → HL → Prop :=
  fun (r0 : (List T_api_Span)) (v : Value) (M' : IM) (H' : HL) => ∃ vz0 cz0, vz0 = v ∧ H' = [cz0] ∧ OwnS kd_api_Span M' vz0 r0 cz0
set_option maxHeartbeats 1000000 in
set_option maxRecDepth 100000 in
theorem f_ref13_Of_ok (a0 : Int) (a1 : Int) (a2 : (List T_api_Batch)) (M : IM) (v2 : Value) (h2 : RS kd_api_Batch M v2 a2) (res : (List T_api_Span)) (h : f_ref13_Of a0 a1 a2 = some res) :
    Tri Tryd.prog 28 #[(.int .i64 a0), (.int .i64 a1), v2] M [] (f_ref13_Of_post a0 a1 a2 v2 res) := by
 unfold f_ref13_Of at h
 refine Tri.enter (fn := Tryd.f28) Tryd.func28 rfl (Nat.le_of_ble_eq_true rfl) ?_
 intro F ρ hρ
 refine Sr ?_
 refine Pa (.slice none 0 0) rfl rfl ?_
 refine Ns ?_
 refine Pa (.slice none 0 0) rfl rfl ?_
 refine Nt ?_
 obtain ⟨x21, hj22, h⟩ := bnd h
 refine WC.joinF (fun (x21 : (List T_api_Span)) ρ' M' H' => ∃ vx21 cx21, M.le M' ∧ cx21 :: F = H' ∧ ρ' 0 = (.int .i64 a0) ∧ ρ' 2 = v2 ∧ ρ' 7 = vx21 ∧ OwnS kd_api_Span M' vx21 x21 cx21) x21 ?_ ?_
 have h322 := h
 have h := hj22
 refine Sr ?_
 refine Pm (.int .i64 a0) (hρ 0) rfl ?_
 refine Pu (.bool (decide ((0 : Int) < a0))) (PO.gtr rfl rfl) rfl ?_
 refine Nt ?_
 refine WC.cond (b := decide ((0 : Int) < a0)) rfl (fun hb23 => ?_) (fun hb23 => ?_)
 have h := ite_t hb23 h
 refine WC.region ?_
 refine Pm (.slice none 0 0) rfl rfl ?_
 refine Pm (.int .i64 a1) (hρ 1) rfl ?_
 refine Pm (.int .i64 a0) (hρ 0) rfl ?_
 refine Pu (.int .i64 (IntKind.i64.wrap (a0 - (1 : Int)))) (PO.sub rfl rfl) rfl ?_
 refine Pu (.agg #[(.int .i64 a1), (.int .i64 (IntKind.i64.wrap (a0 - (1 : Int))))]) (PO.buildL (cl := [(.int .i64 a1), (.int .i64 (IntKind.i64.wrap (a0 - (1 : Int))))]) ze73 fp73 (Parts.cons (congrArg Value.cells (show ev _ _ = (.int .i64 a1) from rfl)) (Parts.cons (congrArg Value.cells (show ev _ _ = (.int .i64 (IntKind.i64.wrap (a0 - (1 : Int)))) from rfl)) Parts.nil)) rfl) rfl ?_
 refine WL.eff (EO.buildSliceL (cl := [(.int .i64 a1), (.int .i64 (IntKind.i64.wrap (a0 - (1 : Int))))]) Tryd.underlying45 iz73 rfl (Parts.cons (congrArg Value.cells (show ev _ _ = (.agg #[(.int .i64 a1), (.int .i64 (IntKind.i64.wrap (a0 - (1 : Int))))]) from rfl)) Parts.nil) rfl) rfl ?_
 rintro _ _ _ - ⟨rfl, g24, rfl, rfl⟩
 have h26 : OwnS kd_api_Span M (.slice (some ⟨g24, 0, none⟩) 1 1) [(⟨a1, IntKind.i64.wrap (a0 - (1 : Int))⟩ : T_api_Span)] [(g24, .cells #[(.int .i64 a1), (.int .i64 (IntKind.i64.wrap (a0 - (1 : Int))))] 73 (0, 0))] := OwnS.rows (css := [[(.int .i64 a1), (.int .i64 (IntKind.i64.wrap (a0 - (1 : Int))))]]) (Rows.cons (kd_api_Span_mk (x := (⟨a1, IntKind.i64.wrap (a0 - (1 : Int))⟩ : T_api_Span))) Rows.nil) rfl rfl
 obtain ⟨hg31, h⟩ := grd_i h
 refine WL.e0 ?_
 refine WL.eff (EO.append (dd := kd_api_Span) (xs := []) (ys := [(⟨a1, IntKind.i64.wrap (a0 - (1 : Int))⟩ : T_api_Span)]) Tryd.underlying45 Tryd.underlying45 in73 rfl (appB (by decide) hg31) (by decide) rfl rfl (OwnS.nil _ _) (h26.src 1 rfl)) rfl ?_
 rintro v30 _ _ - ⟨rfl, c28, rfl, h29⟩
 refine Pa v30 rfl rfl ?_
 refine WL.nil ?_
 refine WQ.f1 ?_
 refine WQ.drop ?_
 obtain rfl := Option.some.inj h
 refine WQ.thenJ ?_
 exact ⟨v30, c28, (IM.le.refl _), rfl, (hρ 0), (hρ 2), rfl, h29⟩
 have h := ite_f hb23 h
 refine WC.skip ?_
 refine WQ.e0 ?_
 obtain rfl := Option.some.inj h
 refine WQ.thenJ ?_
 exact ⟨(.slice none 0 0), [], (IM.le.refl _), rfl, (hρ 0), (hρ 2), rfl, (OwnS.nil _ _)⟩
 rintro ρ22 M22 H22 ⟨vx21, cx21, hle22, rfl, hs22_0, hs22_2, hs22_7, hx21⟩
 have h2 := h2.mono hle22
 obtain ⟨x33, hj34, h⟩ := bnd h
 refine WC.joinF (fun (x33 : (List T_api_Span)) ρ' M' H' => ∃ vx33 cx33, M22.le M' ∧ cx33 :: F = H' ∧ ρ' 7 = vx33 ∧ OwnS kd_api_Span M' vx33 x33 cx33) x33 ?_ ?_
 have h334 := h
 have h := hj34
 refine Sr ?_
 refine Pa (.int .i64 (0 : Int)) rfl rfl ?_
 refine Nt ?_
 refine WC.block ?_
 obtain ⟨e35, he35, hK35⟩ := bnd h
 clear h
 refine WC.loop he35 (fun (p_ : ((List T_api_Span) × Int)) ρ' M' H' => match p_ with | (x36, x37) => ∃ vx36 cx36, M22.le M' ∧ cx36 :: F = H' ∧ ρ' 0 = (.int .i64 a0) ∧ ρ' 2 = v2 ∧ ρ' 7 = vx36 ∧ ρ' 8 = (.int .i64 x37) ∧ OwnS kd_api_Span M' vx36 x36 cx36) ?_ ?_
 exact ⟨vx21, cx21, (IM.le.refl _), rfl, hs22_0, hs22_2, hs22_7, rfl, hx21⟩
 rintro ⟨x36, x37⟩ o35 ρ35 M35 H35 h ⟨vx36, cx36, hle35, rfl, hs35_0, hs35_2, hs35_7, hs35_8, hx36⟩
 unfold f_ref13_Of_l0 at h
 have h2 := h2.mono hle35
 refine WC.seq ?_
 refine Sr ?_
 refine Pm (.int .i64 x37) hs35_8 rfl ?_
 refine Pm v2 hs35_2 rfl ?_
 refine Pu (.int .i64 (a2.length : Int)) (PO.lenS Tryd.underlying55 rfl h2.len) rfl ?_
 refine Pu (.bool (decide (x37 < (a2.length : Int)))) (PO.lss rfl rfl) rfl ?_
 refine Nt ?_
 refine WC.cond (b := decide (x37 < (a2.length : Int))) rfl (fun hb39 => ?_) (fun hb39 => ?_)
 have h := ite_t hb39 h
 refine WC.skip ?_
 refine WQ.thenC ?_
 refine WC.seq ?_
 refine WC.block ?_
 refine WC.region ?_
 refine Pm vx36 hs35_7 rfl ?_
 refine Pm v2 hs35_2 rfl ?_
 refine Pm (.int .i64 x37) hs35_8 rfl ?_
 obtain ⟨hg40, h⟩ := grd_i h
 obtain ⟨p41, cs42, hat43, hrc44, hhas45⟩ := h2.at hg40.1 hg40.2 (by decide)
 obtain ⟨vw46_2, rfl, hw46_2⟩ := kd_api_Batch_open hrc44
 refine Pu (.pointer (some p41)) (PO.indexAddr (n := a2.length) Tryd.underlying55 sz81 rfl rfl hg40.1 hg40.2 hat43) rfl ?_
 refine Pu (.pointer (some (p41.add 0))) (PO.fieldAddr fo81_0 rfl rfl) rfl ?_
 refine Pu (.int .i64 ((rd a2 x37).Term)) (PO.loadM pl3 rfl (IM.has0 hhas45)) rfl ?_
 refine Pm (.int .i64 a0) hs35_0 rfl ?_
 refine Pm (.int .i64 x37) hs35_8 rfl ?_
 refine Pu (.int .i64 (IntKind.i64.wrap (a0 + x37))) (PO.add rfl rfl) rfl ?_
 obtain ⟨r47, hr48, h⟩ := bnd h
 refine WL.eff (EO.call1 co25 (Tri.lend fun w0_ H0_ hs0_ => (f_ref13_Add_ok x36 ((rd a2 x37).Term) (IntKind.i64.wrap (a0 + x37)) _ _ (hx36.rs hs0_) r47 hr48)) (args3 rfl rfl rfl)) rfl ?_
 rintro _ _ _ hle50 ⟨_, ⟨Ml52, Hl53, hll54, rfl, rfl, ⟨vq51, cq51, rfl, rfl, hq51⟩⟩, rfl⟩
 have h2 := h2.mono hle50
 have hx36 := hx36.mono hle50
 have hq51 : OwnS kd_api_Span (Ml52.minus cx36) vq51 r47 cq51 := hq51.any kd_api_Span_flat
 refine WL.a2 ?_
 refine Pa vq51 rfl rfl ?_
 refine WL.nil ?_
 refine WQ.blockN ?_
 refine WQ.thenC ?_
 refine WC.region ?_
 refine Pm (.int .i64 x37) hs35_8 rfl ?_
 refine Pu (.int .i64 (IntKind.i64.wrap (x37 + (1 : Int)))) (PO.add rfl rfl) rfl ?_
 refine Pa (.int .i64 (IntKind.i64.wrap (x37 + (1 : Int)))) rfl rfl ?_
 refine WL.nil ?_
 refine WQ.drop ?_
 refine WQ.again (r47, IntKind.i64.wrap (x37 + (1 : Int))) (Option.some.inj h).symm ?_
 exact ⟨vq51, cq51, (hle35.trans hle50), rfl, hs35_0, hs35_2, rfl, rfl, hq51⟩
 have h := ite_f hb39 h
 refine WC.exit ?_
 refine WQ.thenE ?_
 refine WQ.leaveE x36 (Option.some.inj h).symm (fun heq35 => ?_)
 subst heq35
 have h := hK35
 refine WQ.blockH ?_
 obtain rfl := Option.some.inj h
 refine WQ.thenJ ?_
 exact ⟨vx36, cx36, hle35, rfl, hs35_7, hx36⟩
 rintro ρ34 M34 H34 ⟨vx33, cx33, hle34, rfl, hs34_7, hx33⟩
 refine Sr ?_
 refine Pm vx33 hs34_7 rfl ?_
 refine Pa vx33 rfl rfl ?_
 refine Nt ?_
 refine WC.ret ?_
 exact WQ.returnsF h [cx33] rfl (results1 rfl rfl) (hle22.trans hle34) ⟨vx33, cx33, rfl, rfl, hx33⟩


end Go.Proofs.YtmifmgpfjamdkaaDoor.G
