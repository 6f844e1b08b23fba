/- Go functions: what they come to, and that they do. Printed by a program of the session (gen). -/
import Derived.Test.YtdlilclopmhiaaaDoorWF
import Derived.Test.YtdlilclopmhiaaaDoorW5
set_option linter.unusedVariables false
set_option linter.unusedSimpArgs false
namespace Go.Proofs.YtdlilclopmhiaaaDoor.G
open Go Go.KK

noncomputable def f_law02_WireStays_l0 (a1 : (List T_ref02_Ask)) (r31 : T_wire_Reader) (s_ : (Int × Int × GErr)) : Option ((Int × Int × GErr) ⊕ (Int × GErr)) :=
  match s_ with
  | (x41, x42, x43) =>
    (if (decide (x41 < (a1.length : Int))) = true then (grd (0 ≤ x41 ∧ x41 < a1.length) ((f_law02_got (⟨r31.b, x42, x43⟩ : T_wire_Reader) (rd a1 x41)).bind fun (r54, r55, r56) => (some (Sum.inl (IntKind.i64.wrap (x41 + (1 : Int)), r55, r56))))) else (some (Sum.inr (x42, x43))))
noncomputable def f_law02_WireStays_l1 (a2 : (List T_ref02_Ask)) (r31 : T_wire_Reader) (s_ : (Int × Int × GErr)) : Option ((Int × Int × GErr) ⊕ ((Int × GErr) ⊕ (Int × GErr))) :=
  match s_ with
  | (x103, x104, x105) =>
    (if (decide (x103 < (a2.length : Int))) = true then (grd (0 ≤ x103 ∧ x103 < a2.length) ((f_law02_got (⟨r31.b, x104, x105⟩ : T_wire_Reader) (rd a2 x103)).bind fun (r118, r119, r120) => (((if (decide (r118.Num ≠ (0 : Int))) = true then (some true) else (if r118.Flag = true then (some true) else (if (decide ((0 : Int) < (r118.Text.length : Int))) = true then (some true) else (some (decide ((0 : Int) < (r118.Row.length : Int))))))) : Option Bool).bind fun (x126 : Bool) => (if x126 = true then (some (Sum.inr (Sum.inr (r119, r120)))) else (some (Sum.inl (IntKind.i64.wrap (x103 + (1 : Int)), r119, r120))))))) else (some (Sum.inr (Sum.inl (x104, x105)))))
noncomputable def f_law02_WireStays (a0 : (List Int)) (a1 : (List T_ref02_Ask)) (a2 : (List T_ref02_Ask)) : Option Bool :=
  (((if (decide ((2000 : Int) < (a0.length : Int))) = true then (some true) else (if (decide ((60 : Int) < (a1.length : Int))) = true then (some true) else (some (decide ((60 : Int) < (a2.length : Int)))))) : Option Bool).bind fun (x21 : Bool) => (if x21 = true then ((f_law02_works).bind fun (r26 : Bool) => (some r26)) else ((f_wire_Read a0).bind fun (r31 : T_wire_Reader) => ((((iter (f_law02_WireStays_l0 a1 r31) ((0 : Int), r31.at_, r31.err)).bind (fun (x44, x45) => (some (x44, x45)))) : Option (Int × GErr)).bind fun (x37, x38) => ((f_wire_Reader_Err (⟨r31.b, x37, x38⟩ : T_wire_Reader)).bind fun (r61 : GErr) => (if r61.isNil = true then ((f_law02_works).bind fun (r67 : Bool) => (some r67)) else ((f_wire_Reader_Err (⟨r31.b, x37, x38⟩ : T_wire_Reader)).bind fun (r72 : GErr) => ((f_fault_Of r72).bind fun (r77 : Int) => ((f_wire_Reader_At (⟨r31.b, x37, x38⟩ : T_wire_Reader)).bind fun (r82 : Int) => ((f_wire_Reader_Err (⟨r31.b, x37, x38⟩ : T_wire_Reader)).bind fun (r87 : GErr) => ((f_fault_Where r87).bind fun (r92, r93) => ((((iter (f_law02_WireStays_l1 a2 r31) ((0 : Int), x37, x38)).bind (Sum.elim (fun (x106, x107) => (some (Sum.inl (x106, x107)))) (fun (x108, x109) => (((some false)).bind fun r => some (Sum.inr r))))) : Option ((Int × GErr) ⊕ Bool)).bind (Sum.elim (fun (x99, x100) => ((f_wire_Reader_Refuse (⟨r31.b, x99, x100⟩ : T_wire_Reader) (⟨#[109, 111, 114, 101]⟩ : ByteArray) (10 : Int)).bind fun (r132 : GErr) => ((f_wire_Reader_End (⟨r31.b, x99, r132⟩ : T_wire_Reader)).bind fun (r136, r137) => ((f_fault_Where r136).bind fun (r142, r143) => ((((f_fault_Of r136).bind fun (r151 : Int) => (if (decide (r151 = r77)) = true then (if (decide (r142 = r92)) = true then (if r143 = true then ((f_wire_Reader_At (⟨r31.b, x99, r137⟩ : T_wire_Reader)).bind fun (r159 : Int) => (if (decide (r159 = r82)) = true then ((f_law02_works).bind fun (r165 : Bool) => (some r165)) else (some false))) else (some false)) else (some false)) else (some false))) : Option Bool).bind fun (x149 : Bool) => (some x149)))))) some)))))))))))))
def f_law02_WireStays_post (a0 : (List Int)) (a1 : (List T_ref02_Ask)) (a2 : (List T_ref02_Ask)) (v0 v1 v2 : Value) : Bool → Value → IM → HL → Prop :=
  fun (r0 : Bool) (v : Value) (M' : IM) (H' : HL) => (.bool r0) = v ∧ H' = []
set_option maxHeartbeats 8000000 in
set_option maxRecDepth 100000 in
theorem f_law02_WireStays_ok (a0 : (List Int)) (a1 : (List T_ref02_Ask)) (a2 : (List T_ref02_Ask)) (M : IM) (v0 v1 v2 : Value) (h0 : RS (Kd.int .u8) M v0 a0) (h1 : RS kd_ref02_Ask M v1 a1) (h2 : RS kd_ref02_Ask M v2 a2) (hE : Env M) (res : Bool) (h : f_law02_WireStays a0 a1 a2 = some res) :
    Tri Tryd.prog 6 #[v0, v1, v2] M [] (f_law02_WireStays_post a0 a1 a2 v0 v1 v2 res) := by
 unfold f_law02_WireStays at h
 refine Tri.enter (fn := Tryd.f6) Tryd.func6 rfl (Nat.le_of_ble_eq_true rfl) ?_
 intro F ρ hρ
 refine Sr ?_
 refine Pa (.bool false) rfl rfl ?_
 refine Nt ?_
 refine WC.seq ?_
 obtain ⟨x21, hj22, h⟩ := bnd h
 refine WC.joinF (fun (x21 : Bool) ρ' M' H' => M.le M' ∧ F = H' ∧ ρ' 0 = v0 ∧ ρ' 1 = v1 ∧ ρ' 2 = v2 ∧ ρ' 30 = (.bool x21)) x21 ?_ ?_
 have h322 := h
 have h := hj22
 refine WC.region ?_
 refine Pm v0 (hρ 0) rfl ?_
 refine Pu (.int .i64 (a0.length : Int)) (PO.lenS Tryd.underlying22 rfl h0.len) rfl ?_
 refine Pu (.bool (decide ((2000 : Int) < (a0.length : Int)))) (PO.gtr rfl rfl) rfl ?_
 refine Pm (.bool (decide ((2000 : Int) < (a0.length : Int)))) rfl rfl ?_
 rcases Bool.eq_false_or_eq_true (decide ((2000 : Int) < (a0.length : Int))) with hb23 | hb23
 have h := ite_t hb23 h
 iterate 3 refine Of 21 rfl rfl hb23 rfl ?_
 refine Pu (.bool true) (PO.pickT rfl hb23 rfl) rfl ?_
 refine Pm (.bool true) rfl rfl ?_
 iterate 3 refine Of 26 rfl rfl rfl rfl ?_
 refine Pu (.bool true) (PO.pickT rfl rfl rfl) rfl ?_
 refine WL.nil ?_
 obtain rfl := Option.some.inj h
 refine WQ.thenJ ?_
 exact ⟨(IM.le.refl _), rfl, (hρ 0), (hρ 1), (hρ 2), rfl⟩
 have h := ite_f hb23 h
 refine On 21 rfl rfl hb23 ?_
 refine Pm v1 (hρ 1) rfl ?_
 refine On 21 rfl rfl hb23 ?_
 refine Pu (.int .i64 (a1.length : Int)) (PO.lenS Tryd.underlying50 rfl h1.len) rfl ?_
 refine On 21 rfl rfl hb23 ?_
 refine Pu (.bool (decide ((60 : Int) < (a1.length : Int)))) (PO.gtr rfl rfl) rfl ?_
 refine Pu (.bool (decide ((60 : Int) < (a1.length : Int)))) (PO.pickF rfl hb23 rfl) rfl ?_
 refine Pm (.bool (decide ((60 : Int) < (a1.length : Int)))) rfl rfl ?_
 rcases Bool.eq_false_or_eq_true (decide ((60 : Int) < (a1.length : Int))) with hb24 | hb24
 have h := ite_t hb24 h
 iterate 3 refine Of 26 rfl rfl hb24 rfl ?_
 refine Pu (.bool true) (PO.pickT rfl hb24 rfl) rfl ?_
 refine WL.nil ?_
 obtain rfl := Option.some.inj h
 refine WQ.thenJ ?_
 exact ⟨(IM.le.refl _), rfl, (hρ 0), (hρ 1), (hρ 2), rfl⟩
 have h := ite_f hb24 h
 refine On 26 rfl rfl hb24 ?_
 refine Pm v2 (hρ 2) rfl ?_
 refine On 26 rfl rfl hb24 ?_
 refine Pu (.int .i64 (a2.length : Int)) (PO.lenS Tryd.underlying50 rfl h2.len) rfl ?_
 refine On 26 rfl rfl hb24 ?_
 refine Pu (.bool (decide ((60 : Int) < (a2.length : Int)))) (PO.gtr rfl rfl) rfl ?_
 refine Pu (.bool (decide ((60 : Int) < (a2.length : Int)))) (PO.pickF rfl hb24 rfl) rfl ?_
 refine WL.nil ?_
 obtain rfl := Option.some.inj h
 refine WQ.thenJ ?_
 exact ⟨(IM.le.refl _), rfl, (hρ 0), (hρ 1), (hρ 2), rfl⟩
 rintro ρ22 M22 H22 ⟨hle22, rfl, hs22_0, hs22_1, hs22_2, hs22_30⟩
 have h0 := h0.mono hle22
 have h1 := h1.mono hle22
 have h2 := h2.mono hle22
 have hE := hE.mono hle22
 refine WC.cond (b := x21) hs22_30 (fun hb25 => ?_) (fun hb25 => ?_)
 have h := ite_t hb25 h
 refine Sr ?_
 obtain ⟨r26, hr27, h⟩ := bnd h
 refine WL.eff (EO.call0 co8 (f_law02_works_ok _ hE r26 hr27) (args0)) rfl ?_
 rintro _ M28 _ hle29 ⟨_, ⟨rfl, rfl⟩, rfl⟩
 have h0 := h0.mono hle29
 have h1 := h1.mono hle29
 have h2 := h2.mono hle29
 have hE := hE.mono hle29
 refine WL.a0 ?_
 refine Pa (.bool r26) rfl rfl ?_
 refine Nt ?_
 refine WC.ret ?_
 refine WQ.thenR ?_
 exact WQ.returnsF h [] rfl (results1 rfl rfl) (hle22.trans hle29) ⟨rfl, rfl⟩
 have h := ite_f hb25 h
 refine WC.skip ?_
 refine WQ.thenC ?_
 refine Sr ?_
 refine Pm v0 hs22_0 rfl ?_
 obtain ⟨r31, hr32, h⟩ := bnd h
 refine WL.eff (EO.call0 co20 (f_wire_Read_ok a0 _ _ h0 r31 hr32) (args1 rfl)) rfl ?_
 rintro _ M33 _ hle34 ⟨_, ⟨g35, vq36_0, rfl, rfl, hq36_0⟩, rfl⟩
 have h0 := h0.mono hle34
 have h1 := h1.mono hle34
 have h2 := h2.mono hle34
 have hE := hE.mono hle34
 refine WL.a1 ?_
 refine Pa (.pointer (some ⟨g35, 0, none⟩)) rfl rfl ?_
 refine Nt ?_
 refine WC.seq ?_
 refine Sr ?_
 refine Pm (.pointer (some ⟨g35, 0, none⟩)) rfl rfl ?_
 refine Pu (.bool false) (PO.ptrNil Tryd.underlying38 rfl) rfl ?_
 refine Nt ?_
 refine WC.condF (b := false) rfl rfl ?_
 refine WC.skip ?_
 refine WQ.thenC ?_
 obtain ⟨j39, hj39, h⟩ := bnd h
 refine WC.joinF (fun (p_ : (Int × GErr)) ρ' M' H' => match p_ with | (x37, x38) => M33.le M' ∧ [(g35, .cells #[vq36_0, (.int .i64 x37), (GV x38)] 73 (0, 0))] :: F = H' ∧ ρ' 2 = v2 ∧ ρ' 7 = (.pointer (some ⟨g35, 0, none⟩))) j39 ?_ ?_
 have h339 := h
 have h := hj39
 refine Sr ?_
 refine Pa (.int .i64 (0 : Int)) rfl rfl ?_
 refine Nt ?_
 refine WC.block ?_
 obtain ⟨e40, he40, hK40⟩ := bnd h
 clear h
 refine WC.loop he40 (fun (p_ : (Int × Int × GErr)) ρ' M' H' => match p_ with | (x41, x42, x43) => M33.le M' ∧ [(g35, .cells #[vq36_0, (.int .i64 x42), (GV x43)] 73 (0, 0))] :: F = H' ∧ ρ' 1 = v1 ∧ ρ' 2 = v2 ∧ ρ' 7 = (.pointer (some ⟨g35, 0, none⟩)) ∧ ρ' 8 = (.int .i64 x41)) ?_ ?_
 exact ⟨(IM.le.refl _), rfl, hs22_1, hs22_2, rfl, rfl⟩
 rintro ⟨x41, x42, x43⟩ o40 ρ40 M40 H40 h ⟨hle40, rfl, hs40_1, hs40_2, hs40_7, hs40_8⟩
 unfold f_law02_WireStays_l0 at h
 have h1 := h1.mono hle40
 have h2 := h2.mono hle40
 have hq36_0 := hq36_0.mono hle40
 have hE := hE.mono hle40
 refine WC.seq ?_
 refine Sr ?_
 refine Pm (.int .i64 x41) hs40_8 rfl ?_
 refine Pm v1 hs40_1 rfl ?_
 refine Pu (.int .i64 (a1.length : Int)) (PO.lenS Tryd.underlying50 rfl h1.len) rfl ?_
 refine Pu (.bool (decide (x41 < (a1.length : Int)))) (PO.lss rfl rfl) rfl ?_
 refine Nt ?_
 refine WC.cond (b := decide (x41 < (a1.length : Int))) rfl (fun hb46 => ?_) (fun hb46 => ?_)
 have h := ite_t hb46 h
 refine WC.skip ?_
 refine WQ.thenC ?_
 refine WC.seq ?_
 refine WC.block ?_
 refine WC.region ?_
 refine Pm (.pointer (some ⟨g35, 0, none⟩)) hs40_7 rfl ?_
 refine Pm v1 hs40_1 rfl ?_
 refine Pm (.int .i64 x41) hs40_8 rfl ?_
 obtain ⟨hg47, h⟩ := grd_i h
 obtain ⟨p48, cs49, hat50, hrc51, hhas52⟩ := h1.at hg47.1 hg47.2 (by decide)
 obtain rfl := kd_ref02_Ask_open hrc51
 refine Pu (.pointer (some p48)) (PO.indexAddr (n := a1.length) Tryd.underlying50 sz55 rfl rfl hg47.1 hg47.2 hat50) rfl ?_
 refine Pu (.agg #[(.int .i64 ((rd a1 x41).Kind)), (.int .i64 ((rd a1 x41).Most)), (.int .i64 ((rd a1 x41).Each))]) (PO.loadMA (cs := [(.int .i64 ((rd a1 x41).Kind)), (.int .i64 ((rd a1 x41).Most)), (.int .i64 ((rd a1 x41).Each))]) ag55 sz55 rfl hhas52) rfl ?_
 obtain ⟨⟨r54, r55, r56⟩, hr57, h⟩ := bnd h
 refine WL.eff (EO.call1 co30 (f_law02_got_ok (⟨r31.b, x42, x43⟩ : T_wire_Reader) (rd a1 x41) _ _ _ hq36_0 (r54, r55, r56) hr57) (args2 rfl rfl)) rfl ?_
 rintro _ M58 _ hle59 ⟨_, ⟨vq60_2, cq60_2, vq60_3, cq60_3, rfl, rfl, hq60_2, hq60_3⟩, rfl⟩
 have h1 := h1.mono hle59
 have h2 := h2.mono hle59
 have hhas52 := hhas52.mono hle59
 have hq36_0 := hq36_0.mono hle59
 have hE := hE.mono hle59
 refine WL.a3 ?_
 refine WL.nil ?_
 refine WQ.blockN ?_
 refine WQ.thenC ?_
 refine WC.region ?_
 refine Pm (.int .i64 x41) hs40_8 rfl ?_
 refine Pu (.int .i64 (IntKind.i64.wrap (x41 + (1 : Int)))) (PO.add rfl rfl) rfl ?_
 refine Pa (.int .i64 (IntKind.i64.wrap (x41 + (1 : Int)))) rfl rfl ?_
 refine WL.nil ?_
 refine WQ.f1 ?_
 refine WQ.drop ?_
 refine WQ.f1 ?_
 refine WQ.drop ?_
 refine WQ.again (IntKind.i64.wrap (x41 + (1 : Int)), r55, r56) (Option.some.inj h).symm ?_
 exact ⟨(hle40.trans hle59), rfl, hs40_1, hs40_2, hs40_7, rfl⟩
 have h := ite_f hb46 h
 refine WC.exit ?_
 refine WQ.thenE ?_
 refine WQ.leaveE (x42, x43) (Option.some.inj h).symm (fun heq40 => ?_)
 subst heq40
 have h := hK40
 refine WQ.blockH ?_
 obtain rfl := Option.some.inj h
 refine WQ.thenJ ?_
 exact ⟨hle40, rfl, hs40_2, hs40_7⟩
 obtain ⟨x37, x38⟩ := j39
 rintro ρ39 M39 H39 ⟨hle39, rfl, hs39_2, hs39_7⟩
 have h2 := h2.mono hle39
 have hq36_0 := hq36_0.mono hle39
 have hE := hE.mono hle39
 refine WC.seq ?_
 refine Sr ?_
 refine Pm (.pointer (some ⟨g35, 0, none⟩)) hs39_7 rfl ?_
 obtain ⟨r61, hr62, h⟩ := bnd h
 refine WL.eff (EO.call1 co28 (f_wire_Reader_Err_ok (⟨r31.b, x37, x38⟩ : T_wire_Reader) _ _ _ hq36_0 r61 hr62) (args1 rfl)) rfl ?_
 rintro _ M63 _ hle64 ⟨_, ⟨rfl, rfl⟩, rfl⟩
 have h2 := h2.mono hle64
 have hq36_0 := hq36_0.mono hle64
 have hE := hE.mono hle64
 refine WL.a1 ?_
 refine Pu (.bool r61.isNil) (PO.errNil Tryd.underlying45 rfl) rfl ?_
 refine Nt ?_
 refine WC.cond (b := r61.isNil) rfl (fun hb66 => ?_) (fun hb66 => ?_)
 have h := ite_t hb66 h
 refine Sr ?_
 obtain ⟨r67, hr68, h⟩ := bnd h
 refine WL.eff (EO.call0 co8 (f_law02_works_ok _ hE r67 hr68) (args0)) rfl ?_
 rintro _ M69 _ hle70 ⟨_, ⟨rfl, rfl⟩, rfl⟩
 have h2 := h2.mono hle70
 have hq36_0 := hq36_0.mono hle70
 have hE := hE.mono hle70
 refine WL.a0 ?_
 refine Pa (.bool r67) rfl rfl ?_
 refine Nt ?_
 refine WC.ret ?_
 refine WQ.thenR ?_
 refine WQ.drop ?_
 exact WQ.returnsF h [] rfl (results1 rfl rfl) ((((hle22.trans hle34).trans hle39).trans hle64).trans hle70) ⟨rfl, rfl⟩
 have h := ite_f hb66 h
 refine WC.skip ?_
 refine WQ.thenC ?_
 refine Sr ?_
 refine Pm (.pointer (some ⟨g35, 0, none⟩)) hs39_7 rfl ?_
 obtain ⟨r72, hr73, h⟩ := bnd h
 refine WL.eff (EO.call1 co28 (f_wire_Reader_Err_ok (⟨r31.b, x37, x38⟩ : T_wire_Reader) _ _ _ hq36_0 r72 hr73) (args1 rfl)) rfl ?_
 rintro _ M74 _ hle75 ⟨_, ⟨rfl, rfl⟩, rfl⟩
 have h2 := h2.mono hle75
 have hq36_0 := hq36_0.mono hle75
 have hE := hE.mono hle75
 refine WL.a1 ?_
 obtain ⟨r77, hr78, h⟩ := bnd h
 refine WL.eff (EO.call0 co31 (f_fault_Of_ok r72 _ hE r77 hr78) (args1 rfl)) rfl ?_
 rintro _ M79 _ hle80 ⟨_, ⟨rfl, rfl⟩, rfl⟩
 have h2 := h2.mono hle80
 have hq36_0 := hq36_0.mono hle80
 have hE := hE.mono hle80
 refine WL.a0 ?_
 refine Pm (.pointer (some ⟨g35, 0, none⟩)) hs39_7 rfl ?_
 obtain ⟨r82, hr83, h⟩ := bnd h
 refine WL.eff (EO.call1 co29 (f_wire_Reader_At_ok (⟨r31.b, x37, x38⟩ : T_wire_Reader) _ _ _ hq36_0 r82 hr83) (args1 rfl)) rfl ?_
 rintro _ M84 _ hle85 ⟨_, ⟨rfl, rfl⟩, rfl⟩
 have h2 := h2.mono hle85
 have hq36_0 := hq36_0.mono hle85
 have hE := hE.mono hle85
 refine WL.a1 ?_
 refine Pa (.int .i64 r77) rfl rfl ?_
 refine Pa (.int .i64 r82) rfl rfl ?_
 refine Ns ?_
 refine Pm (.pointer (some ⟨g35, 0, none⟩)) hs39_7 rfl ?_
 obtain ⟨r87, hr88, h⟩ := bnd h
 refine WL.eff (EO.call1 co28 (f_wire_Reader_Err_ok (⟨r31.b, x37, x38⟩ : T_wire_Reader) _ _ _ hq36_0 r87 hr88) (args1 rfl)) rfl ?_
 rintro _ M89 _ hle90 ⟨_, ⟨rfl, rfl⟩, rfl⟩
 have h2 := h2.mono hle90
 have hq36_0 := hq36_0.mono hle90
 have hE := hE.mono hle90
 refine WL.a1 ?_
 obtain ⟨⟨r92, r93⟩, hr94, h⟩ := bnd h
 refine WL.eff (EO.call0 co32 (f_fault_Where_ok r87 _ hE (r92, r93) hr94) (args1 rfl)) rfl ?_
 rintro _ M95 _ hle96 ⟨_, ⟨rfl, rfl⟩, rfl⟩
 have h2 := h2.mono hle96
 have hq36_0 := hq36_0.mono hle96
 have hE := hE.mono hle96
 refine WL.a0 ?_
 refine Pm (.tuple #[(.int .i64 r92), (.bool r93)]) rfl rfl ?_
 refine Pu (.int .i64 r92) (PO.extract rfl rfl) rfl ?_
 refine Pu (.bool r93) (PO.extract rfl rfl) rfl ?_
 refine Pa (.int .i64 r92) rfl rfl ?_
 refine Pa (.bool r93) rfl rfl ?_
 refine Nt ?_
 obtain ⟨j101, hj101, h⟩ := bnd h
 refine WC.joinE (fun (p_ : (Int × GErr)) ρ' M' H' => match p_ with | (x99, x100) => M95.le M' ∧ [(g35, .cells #[vq36_0, (.int .i64 x99), (GV x100)] 73 (0, 0))] :: F = H' ∧ ρ' 7 = (.pointer (some ⟨g35, 0, none⟩)) ∧ ρ' 9 = (.int .i64 r77) ∧ ρ' 10 = (.int .i64 r82) ∧ ρ' 11 = (.int .i64 r92)) j101 ?_ ?_
 have h3101 := h
 have h := hj101
 refine Sr ?_
 refine Pa (.int .i64 (0 : Int)) rfl rfl ?_
 refine Nt ?_
 refine WC.block ?_
 obtain ⟨e102, he102, hK102⟩ := bnd h
 clear h
 refine WC.loop he102 (fun (p_ : (Int × Int × GErr)) ρ' M' H' => match p_ with | (x103, x104, x105) => M95.le M' ∧ [(g35, .cells #[vq36_0, (.int .i64 x104), (GV x105)] 73 (0, 0))] :: F = H' ∧ ρ' 2 = v2 ∧ ρ' 7 = (.pointer (some ⟨g35, 0, none⟩)) ∧ ρ' 9 = (.int .i64 r77) ∧ ρ' 10 = (.int .i64 r82) ∧ ρ' 11 = (.int .i64 r92) ∧ ρ' 13 = (.int .i64 x103)) ?_ ?_
 exact ⟨(IM.le.refl _), rfl, hs39_2, hs39_7, rfl, rfl, rfl, rfl⟩
 rintro ⟨x103, x104, x105⟩ o102 ρ102 M102 H102 h ⟨hle102, rfl, hs102_2, hs102_7, hs102_9, hs102_10, hs102_11, hs102_13⟩
 unfold f_law02_WireStays_l1 at h
 have h2 := h2.mono hle102
 have hq36_0 := hq36_0.mono hle102
 have hE := hE.mono hle102
 refine WC.seq ?_
 refine Sr ?_
 refine Pm (.int .i64 x103) hs102_13 rfl ?_
 refine Pm v2 hs102_2 rfl ?_
 refine Pu (.int .i64 (a2.length : Int)) (PO.lenS Tryd.underlying50 rfl h2.len) rfl ?_
 refine Pu (.bool (decide (x103 < (a2.length : Int)))) (PO.lss rfl rfl) rfl ?_
 refine Nt ?_
 refine WC.cond (b := decide (x103 < (a2.length : Int))) rfl (fun hb110 => ?_) (fun hb110 => ?_)
 have h := ite_t hb110 h
 refine WC.skip ?_
 refine WQ.thenC ?_
 refine WC.seq ?_
 refine WC.block ?_
 refine Sr ?_
 refine Pm (.pointer (some ⟨g35, 0, none⟩)) hs102_7 rfl ?_
 refine Pm v2 hs102_2 rfl ?_
 refine Pm (.int .i64 x103) hs102_13 rfl ?_
 obtain ⟨hg111, h⟩ := grd_i h
 obtain ⟨p112, cs113, hat114, hrc115, hhas116⟩ := h2.at hg111.1 hg111.2 (by decide)
 obtain rfl := kd_ref02_Ask_open hrc115
 refine Pu (.pointer (some p112)) (PO.indexAddr (n := a2.length) Tryd.underlying50 sz55 rfl rfl hg111.1 hg111.2 hat114) rfl ?_
 refine Pu (.agg #[(.int .i64 ((rd a2 x103).Kind)), (.int .i64 ((rd a2 x103).Most)), (.int .i64 ((rd a2 x103).Each))]) (PO.loadMA (cs := [(.int .i64 ((rd a2 x103).Kind)), (.int .i64 ((rd a2 x103).Most)), (.int .i64 ((rd a2 x103).Each))]) ag55 sz55 rfl hhas116) rfl ?_
 obtain ⟨⟨r118, r119, r120⟩, hr121, h⟩ := bnd h
 refine WL.eff (EO.call1 co30 (f_law02_got_ok (⟨r31.b, x104, x105⟩ : T_wire_Reader) (rd a2 x103) _ _ _ hq36_0 (r118, r119, r120) hr121) (args2 rfl rfl)) rfl ?_
 rintro _ M122 _ hle123 ⟨_, ⟨vq124_2, cq124_2, vq124_3, cq124_3, rfl, rfl, hq124_2, hq124_3⟩, rfl⟩
 have h2 := h2.mono hle123
 have hhas116 := hhas116.mono hle123
 have hq36_0 := hq36_0.mono hle123
 have hE := hE.mono hle123
 refine WL.a3 ?_
 refine WL.eff (EO.alloc ze52 rfl) rfl ?_
 rintro _ _ _ - ⟨rfl, g125, rfl, rfl⟩
 refine WL.eff (EO.storeL (v := (.agg #[(.int .u64 r118.Num), (.bool r118.Flag), vq124_2, vq124_3])) (vl := [(.int .u64 r118.Num), (.bool r118.Flag), vq124_2, vq124_3]) (arr' := [(.int .u64 r118.Num), (.bool r118.Flag), vq124_2, vq124_3]) rfl sz52 rfl rfl (onesOf (Ones.cons rfl (Ones.cons rfl (Ones.cons (OwnS.one hq124_2) (Ones.cons (OwnS.one hq124_3) Ones.nil))))) rfl rfl rfl) rfl ?_
 rintro _ _ _ - ⟨rfl, rfl⟩
 refine Nt ?_
 obtain ⟨x126, hj127, h⟩ := bnd h
 refine WC.joinF (fun (x126 : Bool) ρ' M' H' => M122.le M' ∧ [(g125, .cells #[(.int .u64 r118.Num), (.bool r118.Flag), vq124_2, vq124_3] 52 (0, 0))] :: [(g35, .cells #[vq36_0, (.int .i64 r119), (GV r120)] 73 (0, 0))] :: cq124_2 :: cq124_3 :: F = H' ∧ ρ' 2 = v2 ∧ ρ' 7 = (.pointer (some ⟨g35, 0, none⟩)) ∧ ρ' 9 = (.int .i64 r77) ∧ ρ' 10 = (.int .i64 r82) ∧ ρ' 11 = (.int .i64 r92) ∧ ρ' 13 = (.int .i64 x103) ∧ ρ' 93 = (.bool x126)) x126 ?_ ?_
 have h3127 := h
 have h := hj127
 refine WC.region ?_
 refine Pu (.pointer (some ⟨g125, 0, none⟩)) (PO.fieldAddr fo52_0 rfl rfl) rfl ?_
 refine Pu (.int .u64 r118.Num) (PO.loadB 0 pl23 rfl rfl rfl) rfl ?_
 refine Pu (.bool (decide (r118.Num ≠ (0 : Int)))) (PO.neq rfl rfl) rfl ?_
 refine Pm (.bool (decide (r118.Num ≠ (0 : Int)))) rfl rfl ?_
 rcases Bool.eq_false_or_eq_true (decide (r118.Num ≠ (0 : Int))) with hb128 | hb128
 have h := ite_t hb128 h
 iterate 2 refine Of 78 rfl rfl hb128 rfl ?_
 refine Pu (.bool true) (PO.pickT rfl hb128 rfl) rfl ?_
 refine Pm (.bool true) rfl rfl ?_
 iterate 4 refine Of 82 rfl rfl rfl rfl ?_
 refine Pu (.bool true) (PO.pickT rfl rfl rfl) rfl ?_
 refine Pm (.bool true) rfl rfl ?_
 iterate 4 refine Of 88 rfl rfl rfl rfl ?_
 refine Pu (.bool true) (PO.pickT rfl rfl rfl) rfl ?_
 refine WL.nil ?_
 obtain rfl := Option.some.inj h
 refine WQ.thenJ ?_
 exact ⟨(IM.le.refl _), rfl, hs102_2, hs102_7, hs102_9, hs102_10, hs102_11, hs102_13, rfl⟩
 have h := ite_f hb128 h
 refine On 78 rfl rfl hb128 ?_
 refine Pu (.pointer (some ⟨g125, 1, none⟩)) (PO.fieldAddr fo52_1 rfl rfl) rfl ?_
 refine On 78 rfl rfl hb128 ?_
 refine Pu (.bool r118.Flag) (PO.loadB 0 pl4 rfl rfl rfl) rfl ?_
 refine Pu (.bool r118.Flag) (PO.pickF rfl hb128 rfl) rfl ?_
 refine Pm (.bool r118.Flag) rfl rfl ?_
 rcases Bool.eq_false_or_eq_true (r118.Flag) with hb129 | hb129
 have h := ite_t hb129 h
 iterate 4 refine Of 82 rfl rfl hb129 rfl ?_
 refine Pu (.bool true) (PO.pickT rfl hb129 rfl) rfl ?_
 refine Pm (.bool true) rfl rfl ?_
 iterate 4 refine Of 88 rfl rfl rfl rfl ?_
 refine Pu (.bool true) (PO.pickT rfl rfl rfl) rfl ?_
 refine WL.nil ?_
 obtain rfl := Option.some.inj h
 refine WQ.thenJ ?_
 exact ⟨(IM.le.refl _), rfl, hs102_2, hs102_7, hs102_9, hs102_10, hs102_11, hs102_13, rfl⟩
 have h := ite_f hb129 h
 refine On 82 rfl rfl hb129 ?_
 refine Pu (.pointer (some ⟨g125, 2, none⟩)) (PO.fieldAddr fo52_2 rfl rfl) rfl ?_
 refine On 82 rfl rfl hb129 ?_
 refine Pu vq124_2 (PO.loadB 0 pl22 rfl rfl rfl) rfl ?_
 refine On 82 rfl rfl hb129 ?_
 refine Pu (.int .i64 (r118.Text.length : Int)) (PO.lenS Tryd.underlying22 rfl hq124_2.len) rfl ?_
 refine On 82 rfl rfl hb129 ?_
 refine Pu (.bool (decide ((0 : Int) < (r118.Text.length : Int)))) (PO.gtr rfl rfl) rfl ?_
 refine Pu (.bool (decide ((0 : Int) < (r118.Text.length : Int)))) (PO.pickF rfl hb129 rfl) rfl ?_
 refine Pm (.bool (decide ((0 : Int) < (r118.Text.length : Int)))) rfl rfl ?_
 rcases Bool.eq_false_or_eq_true (decide ((0 : Int) < (r118.Text.length : Int))) with hb130 | hb130
 have h := ite_t hb130 h
 iterate 4 refine Of 88 rfl rfl hb130 rfl ?_
 refine Pu (.bool true) (PO.pickT rfl hb130 rfl) rfl ?_
 refine WL.nil ?_
 obtain rfl := Option.some.inj h
 refine WQ.thenJ ?_
 exact ⟨(IM.le.refl _), rfl, hs102_2, hs102_7, hs102_9, hs102_10, hs102_11, hs102_13, rfl⟩
 have h := ite_f hb130 h
 refine On 88 rfl rfl hb130 ?_
 refine Pu (.pointer (some ⟨g125, 3, none⟩)) (PO.fieldAddr fo52_3 rfl rfl) rfl ?_
 refine On 88 rfl rfl hb130 ?_
 refine Pu vq124_3 (PO.loadB 0 pl24 rfl rfl rfl) rfl ?_
 refine On 88 rfl rfl hb130 ?_
 refine Pu (.int .i64 (r118.Row.length : Int)) (PO.lenS Tryd.underlying24 rfl hq124_3.len) rfl ?_
 refine On 88 rfl rfl hb130 ?_
 refine Pu (.bool (decide ((0 : Int) < (r118.Row.length : Int)))) (PO.gtr rfl rfl) rfl ?_
 refine Pu (.bool (decide ((0 : Int) < (r118.Row.length : Int)))) (PO.pickF rfl hb130 rfl) rfl ?_
 refine WL.nil ?_
 obtain rfl := Option.some.inj h
 refine WQ.thenJ ?_
 exact ⟨(IM.le.refl _), rfl, hs102_2, hs102_7, hs102_9, hs102_10, hs102_11, hs102_13, rfl⟩
 rintro ρ127 M127 H127 ⟨hle127, rfl, hs127_2, hs127_7, hs127_9, hs127_10, hs127_11, hs127_13, hs127_93⟩
 have h2 := h2.mono hle127
 have hq124_2 := hq124_2.mono hle127
 have hq124_3 := hq124_3.mono hle127
 have hq36_0 := hq36_0.mono hle127
 have hE := hE.mono hle127
 refine WC.cond (b := x126) hs127_93 (fun hb131 => ?_) (fun hb131 => ?_)
 have h := ite_t hb131 h
 refine Sr ?_
 refine Pa (.bool false) rfl rfl ?_
 refine Nt ?_
 refine WC.ret ?_
 refine WQ.blockR ?_
 refine WQ.thenR ?_
 refine WQ.leaveR (Sum.inr (r119, r120)) (Option.some.inj h).symm (fun heq102 => ?_)
 subst heq102
 have h := (elimR hK102)
 refine WQ.blockR ?_
 refine WQ.thenR ?_
 have h := KK.early h h3101
 refine WQ.drop ?_
 refine WQ.drop ?_
 refine WQ.drop ?_
 refine WQ.drop ?_
 exact WQ.returnsF h [] rfl (results1 rfl rfl) (((((((((((hle22.trans hle34).trans hle39).trans hle64).trans hle75).trans hle80).trans hle85).trans hle90).trans hle96).trans hle102).trans hle123).trans hle127) ⟨rfl, rfl⟩
 have h := ite_f hb131 h
 refine WC.skip ?_
 refine WQ.blockN ?_
 refine WQ.thenC ?_
 refine WC.region ?_
 refine Pm (.int .i64 x103) hs127_13 rfl ?_
 refine Pu (.int .i64 (IntKind.i64.wrap (x103 + (1 : Int)))) (PO.add rfl rfl) rfl ?_
 refine Pa (.int .i64 (IntKind.i64.wrap (x103 + (1 : Int)))) rfl rfl ?_
 refine WL.nil ?_
 refine WQ.drop ?_
 refine WQ.f1 ?_
 refine WQ.drop ?_
 refine WQ.f1 ?_
 refine WQ.drop ?_
 refine WQ.again (IntKind.i64.wrap (x103 + (1 : Int)), r119, r120) (Option.some.inj h).symm ?_
 exact ⟨((hle102.trans hle123).trans hle127), rfl, hs127_2, hs127_7, hs127_9, hs127_10, hs127_11, rfl⟩
 have h := ite_f hb110 h
 refine WC.exit ?_
 refine WQ.thenE ?_
 refine WQ.leaveE (Sum.inl (x104, x105)) (Option.some.inj h).symm (fun heq102 => ?_)
 subst heq102
 have h := elimL hK102
 refine WQ.blockH ?_
 refine WQ.thenFE h ?_
 exact ⟨hle102, rfl, hs102_7, hs102_9, hs102_10, hs102_11⟩
 rintro ⟨x99, x100⟩ ρ101 M101 H101 rfl ⟨hle101, rfl, hs101_7, hs101_9, hs101_10, hs101_11⟩
 have hq36_0 := hq36_0.mono hle101
 have hE := hE.mono hle101
 refine Sr ?_
 refine Pm (.pointer (some ⟨g35, 0, none⟩)) hs101_7 rfl ?_
 obtain ⟨r132, hr133, h⟩ := bnd h
 refine WL.eff (EO.call1 co33 (f_wire_Reader_Refuse_ok (⟨r31.b, x99, x100⟩ : T_wire_Reader) (⟨#[109, 111, 114, 101]⟩ : ByteArray) (10 : Int) _ _ _ hq36_0 r132 hr133) (args3 rfl rfl rfl)) rfl ?_
 rintro _ M134 _ hle135 ⟨_, ⟨rfl, rfl⟩, rfl⟩
 have hq36_0 := hq36_0.mono hle135
 have hE := hE.mono hle135
 refine WL.a1 ?_
 refine Ns ?_
 refine Pm (.pointer (some ⟨g35, 0, none⟩)) hs101_7 rfl ?_
 obtain ⟨⟨r136, r137⟩, hr138, h⟩ := bnd h
 refine WL.eff (EO.call1 co27 (f_wire_Reader_End_ok (⟨r31.b, x99, r132⟩ : T_wire_Reader) _ _ _ hq36_0 (r136, r137) hr138) (args1 rfl)) rfl ?_
 rintro _ M139 _ hle140 ⟨_, ⟨rfl, rfl⟩, rfl⟩
 have hq36_0 := hq36_0.mono hle140
 have hE := hE.mono hle140
 refine WL.a1 ?_
 refine Pa (GV r136) rfl rfl ?_
 refine Ns ?_
 refine Pm (GV r136) rfl rfl ?_
 obtain ⟨⟨r142, r143⟩, hr144, h⟩ := bnd h
 refine WL.eff (EO.call0 co32 (f_fault_Where_ok r136 _ hE (r142, r143) hr144) (args1 rfl)) rfl ?_
 rintro _ M145 _ hle146 ⟨_, ⟨rfl, rfl⟩, rfl⟩
 have hq36_0 := hq36_0.mono hle146
 have hE := hE.mono hle146
 refine WL.a0 ?_
 refine Pm (.tuple #[(.int .i64 r142), (.bool r143)]) rfl rfl ?_
 refine Pu (.int .i64 r142) (PO.extract rfl rfl) rfl ?_
 refine Pu (.bool r143) (PO.extract rfl rfl) rfl ?_
 refine Pa (.int .i64 r142) rfl rfl ?_
 refine Pa (.bool r143) rfl rfl ?_
 refine Nt ?_
 obtain ⟨x149, hj150, h⟩ := bnd h
 refine WC.joinF (fun (x149 : Bool) ρ' M' H' => M145.le M' ∧ [(g35, .cells #[vq36_0, (.int .i64 x99), (GV r137)] 73 (0, 0))] :: F = H' ∧ ρ' 6 = (.bool x149)) x149 ?_ ?_
 have h3150 := h
 have h := hj150
 refine WC.region ?_
 refine Pm (GV r136) rfl rfl ?_
 obtain ⟨r151, hr152, h⟩ := bnd h
 refine WL.eff (EO.call0 co31 (f_fault_Of_ok r136 _ hE r151 hr152) (args1 rfl)) rfl ?_
 rintro _ M153 _ hle154 ⟨_, ⟨rfl, rfl⟩, rfl⟩
 have hq36_0 := hq36_0.mono hle154
 have hE := hE.mono hle154
 refine WL.a0 ?_
 refine Pm (.int .i64 r77) hs101_9 rfl ?_
 refine Pu (.bool (decide (r151 = r77))) (PO.eql rfl rfl) rfl ?_
 refine Pm (.bool (decide (r151 = r77))) rfl rfl ?_
 rcases Bool.eq_false_or_eq_true (decide (r151 = r77)) with hb156 | hb156
 have h := ite_t hb156 h
 refine On 107 rfl rfl hb156 ?_
 refine Pm (.int .i64 r142) rfl rfl ?_
 refine On 107 rfl rfl hb156 ?_
 refine Pm (.int .i64 r92) hs101_11 rfl ?_
 refine On 107 rfl rfl hb156 ?_
 refine Pu (.bool (decide (r142 = r92))) (PO.eql rfl rfl) rfl ?_
 refine Pu (.bool (decide (r142 = r92))) (PO.pickT rfl hb156 rfl) rfl ?_
 refine Pm (.bool (decide (r142 = r92))) rfl rfl ?_
 rcases Bool.eq_false_or_eq_true (decide (r142 = r92)) with hb157 | hb157
 have h := ite_t hb157 h
 refine On 112 rfl rfl hb157 ?_
 refine Pm (.bool r143) rfl rfl ?_
 refine Pu (.bool r143) (PO.pickT rfl hb157 rfl) rfl ?_
 refine Pm (.bool r143) rfl rfl ?_
 rcases Bool.eq_false_or_eq_true (r143) with hb158 | hb158
 have h := ite_t hb158 h
 refine On 115 rfl rfl hb158 ?_
 refine Pm (.pointer (some ⟨g35, 0, none⟩)) hs101_7 rfl ?_
 refine On 115 rfl rfl hb158 ?_
 obtain ⟨r159, hr160, h⟩ := bnd h
 refine WL.eff (EO.call1 co29 (f_wire_Reader_At_ok (⟨r31.b, x99, r137⟩ : T_wire_Reader) _ _ _ hq36_0 r159 hr160) (args1 rfl)) rfl ?_
 rintro _ M161 _ hle162 ⟨_, ⟨rfl, rfl⟩, rfl⟩
 have hq36_0 := hq36_0.mono hle162
 have hE := hE.mono hle162
 refine WL.a1 ?_
 refine On 115 rfl rfl hb158 ?_
 refine Pm (.int .i64 r82) hs101_10 rfl ?_
 refine On 115 rfl rfl hb158 ?_
 refine Pu (.bool (decide (r159 = r82))) (PO.eql rfl rfl) rfl ?_
 refine Pu (.bool (decide (r159 = r82))) (PO.pickT rfl hb158 rfl) rfl ?_
 refine Pm (.bool (decide (r159 = r82))) rfl rfl ?_
 rcases Bool.eq_false_or_eq_true (decide (r159 = r82)) with hb164 | hb164
 have h := ite_t hb164 h
 refine On 121 rfl rfl hb164 ?_
 obtain ⟨r165, hr166, h⟩ := bnd h
 refine WL.eff (EO.call0 co8 (f_law02_works_ok _ hE r165 hr166) (args0)) rfl ?_
 rintro _ M167 _ hle168 ⟨_, ⟨rfl, rfl⟩, rfl⟩
 have hq36_0 := hq36_0.mono hle168
 have hE := hE.mono hle168
 refine WL.a0 ?_
 refine Pu (.bool r165) (PO.pickT rfl hb164 rfl) rfl ?_
 refine Pa (.bool r165) rfl rfl ?_
 refine WL.nil ?_
 obtain rfl := Option.some.inj h
 refine WQ.thenJ ?_
 exact ⟨((hle154.trans hle162).trans hle168), rfl, rfl⟩
 have h := ite_f hb164 h
 refine Of 121 rfl rfl hb164 rfl ?_
 refine Pu (.bool false) (PO.pickF rfl hb164 rfl) rfl ?_
 refine Pa (.bool false) rfl rfl ?_
 refine WL.nil ?_
 obtain rfl := Option.some.inj h
 refine WQ.thenJ ?_
 exact ⟨(hle154.trans hle162), rfl, rfl⟩
 have h := ite_f hb158 h
 iterate 4 refine Of 115 rfl rfl hb158 rfl ?_
 refine Pu (.bool false) (PO.pickF rfl hb158 rfl) rfl ?_
 refine Pm (.bool false) rfl rfl ?_
 refine Of 121 rfl rfl rfl rfl ?_
 refine Pu (.bool false) (PO.pickF rfl rfl rfl) rfl ?_
 refine Pa (.bool false) rfl rfl ?_
 refine WL.nil ?_
 obtain rfl := Option.some.inj h
 refine WQ.thenJ ?_
 exact ⟨hle154, rfl, rfl⟩
 have h := ite_f hb157 h
 refine Of 112 rfl rfl hb157 rfl ?_
 refine Pu (.bool false) (PO.pickF rfl hb157 rfl) rfl ?_
 refine Pm (.bool false) rfl rfl ?_
 iterate 4 refine Of 115 rfl rfl rfl rfl ?_
 refine Pu (.bool false) (PO.pickF rfl rfl rfl) rfl ?_
 refine Pm (.bool false) rfl rfl ?_
 refine Of 121 rfl rfl rfl rfl ?_
 refine Pu (.bool false) (PO.pickF rfl rfl rfl) rfl ?_
 refine Pa (.bool false) rfl rfl ?_
 refine WL.nil ?_
 obtain rfl := Option.some.inj h
 refine WQ.thenJ ?_
 exact ⟨hle154, rfl, rfl⟩
 have h := ite_f hb156 h
 iterate 3 refine Of 107 rfl rfl hb156 rfl ?_
 refine Pu (.bool false) (PO.pickF rfl hb156 rfl) rfl ?_
 refine Pm (.bool false) rfl rfl ?_
 refine Of 112 rfl rfl rfl rfl ?_
 refine Pu (.bool false) (PO.pickF rfl rfl rfl) rfl ?_
 refine Pm (.bool false) rfl rfl ?_
 iterate 4 refine Of 115 rfl rfl rfl rfl ?_
 refine Pu (.bool false) (PO.pickF rfl rfl rfl) rfl ?_
 refine Pm (.bool false) rfl rfl ?_
 refine Of 121 rfl rfl rfl rfl ?_
 refine Pu (.bool false) (PO.pickF rfl rfl rfl) rfl ?_
 refine Pa (.bool false) rfl rfl ?_
 refine WL.nil ?_
 obtain rfl := Option.some.inj h
 refine WQ.thenJ ?_
 exact ⟨hle154, rfl, rfl⟩
 rintro ρ150 M150 H150 ⟨hle150, rfl, hs150_6⟩
 have hq36_0 := hq36_0.mono hle150
 have hE := hE.mono hle150
 refine WC.ret ?_
 refine WQ.drop ?_
 exact WQ.returnsF h [] rfl (results1 rfl hs150_6) (((((((((((((hle22.trans hle34).trans hle39).trans hle64).trans hle75).trans hle80).trans hle85).trans hle90).trans hle96).trans hle101).trans hle135).trans hle140).trans hle146).trans hle150) ⟨rfl, rfl⟩

noncomputable def f_ref02_above (a0 : Int) : Option Int :=
  (if (decide (a0 < (0 : Int))) = true then (some (0 : Int)) else (some (IntKind.u64.wrap a0)))
def f_ref02_above_post (a0 : Int) : Int → Value → IM → HL → Prop :=
  fun (r0 : Int) (v : Value) (M' : IM) (H' : HL) => (.int .u64 r0) = v ∧ H' = []
set_option maxHeartbeats 8000000 in
set_option maxRecDepth 100000 in
theorem f_ref02_above_ok (a0 : Int) (M : IM) (res : Int) (h : f_ref02_above a0 = some res) :
    Tri Tryd.prog 44 #[(.int .i64 a0)] M [] (f_ref02_above_post a0 res) := by
 unfold f_ref02_above at h
 refine Tri.enter (fn := Tryd.f44) Tryd.func44 rfl (Nat.le_of_ble_eq_true rfl) ?_
 intro F ρ hρ
 refine Sr ?_
 refine Pa (.int .u64 (0 : Int)) rfl rfl ?_
 refine Nt ?_
 refine WC.seq ?_
 refine Sr ?_
 refine Pm (.int .i64 a0) (hρ 0) rfl ?_
 refine Pu (.bool (decide (a0 < (0 : Int)))) (PO.lss rfl rfl) rfl ?_
 refine Nt ?_
 refine WC.cond (b := decide (a0 < (0 : Int))) rfl (fun hb21 => ?_) (fun hb21 => ?_)
 have h := ite_t hb21 h
 refine Sr ?_
 refine Pa (.int .u64 (0 : Int)) rfl rfl ?_
 refine Nt ?_
 refine WC.ret ?_
 refine WQ.thenR ?_
 exact WQ.returnsF h [] rfl (results1 rfl rfl) (IM.le.refl _) ⟨rfl, rfl⟩
 have h := ite_f hb21 h
 refine WC.skip ?_
 refine WQ.thenC ?_
 refine Sr ?_
 refine Pm (.int .i64 a0) (hρ 0) rfl ?_
 refine Pu (.int .u64 (IntKind.u64.wrap a0)) (PO.conv us3 Tryd.underlying23 rfl) rfl ?_
 refine Pa (.int .u64 (IntKind.u64.wrap a0)) rfl rfl ?_
 refine Nt ?_
 refine WC.ret ?_
 exact WQ.returnsF h [] rfl (results1 rfl rfl) (IM.le.refl _) ⟨rfl, rfl⟩

noncomputable def f_ref02_bad (a0 : T_ref02_State) (a1 : ByteArray) (a2 : Int) (a3 : Int) : Option T_ref02_State :=
  (if (decide (a0.Code ≠ (0 : Int))) = true then (some a0) else (some (⟨a0.At, a3, a1, a2⟩ : T_ref02_State)))
def f_ref02_bad_post (a0 : T_ref02_State) (a1 : ByteArray) (a2 : Int) (a3 : Int) : T_ref02_State → Value → IM → HL → Prop :=
  fun (r0 : T_ref02_State) (v : Value) (M' : IM) (H' : HL) => (.agg #[(.int .i64 r0.At), (.int .i64 r0.Code), (.string r0.Op), (.int .i64 r0.Where)]) = v ∧ H' = []
set_option maxHeartbeats 8000000 in
set_option maxRecDepth 100000 in
theorem f_ref02_bad_ok (a0 : T_ref02_State) (a1 : ByteArray) (a2 : Int) (a3 : Int) (M : IM) (res : T_ref02_State) (h : f_ref02_bad a0 a1 a2 a3 = some res) :
    Tri Tryd.prog 45 #[(.agg #[(.int .i64 a0.At), (.int .i64 a0.Code), (.string a0.Op), (.int .i64 a0.Where)]), (.string a1), (.int .i64 a2), (.int .i64 a3)] M [] (f_ref02_bad_post a0 a1 a2 a3 res) := by
 unfold f_ref02_bad at h
 refine Tri.enter (fn := Tryd.f45) Tryd.func45 rfl (Nat.le_of_ble_eq_true rfl) ?_
 intro F ρ hρ
 refine Sr ?_
 refine WL.eff (EO.box (cs := #[(.int .i64 a0.At), (.int .i64 a0.Code), (.string a0.Op), (.int .i64 a0.Where)]) (congrArg Value.cells (asE (.agg #[(.int .i64 a0.At), (.int .i64 a0.Code), (.string a0.Op), (.int .i64 a0.Where)]) (hρ 0)))) rfl ?_
 rintro _ _ _ - ⟨rfl, g21, rfl, rfl⟩
 refine WL.eff (EO.alloc ze63 rfl) rfl ?_
 rintro _ _ _ - ⟨rfl, g22, rfl, rfl⟩
 refine Nt ?_
 refine WC.seq ?_
 refine Sr ?_
 refine Pu (.pointer (some ⟨g21, 1, none⟩)) (PO.fieldAddr fo63_1 rfl rfl) rfl ?_
 refine Pu (.int .i64 a0.Code) (PO.loadB 1 pl56 rfl rfl rfl) rfl ?_
 refine Pu (.bool (decide (a0.Code ≠ (0 : Int)))) (PO.neq rfl rfl) rfl ?_
 refine Nt ?_
 refine WC.cond (b := decide (a0.Code ≠ (0 : Int))) rfl (fun hb23 => ?_) (fun hb23 => ?_)
 have h := ite_t hb23 h
 refine Sr ?_
 refine Pu (.agg #[(.int .i64 a0.At), (.int .i64 a0.Code), (.string a0.Op), (.int .i64 a0.Where)]) (PO.loadBA (cs := [(.int .i64 a0.At), (.int .i64 a0.Code), (.string a0.Op), (.int .i64 a0.Where)]) 1 ag63 sz63 rfl rfl rfl) rfl ?_
 refine WL.eff (EO.storeL (v := (.agg #[(.int .i64 a0.At), (.int .i64 a0.Code), (.string a0.Op), (.int .i64 a0.Where)])) (vl := [(.int .i64 a0.At), (.int .i64 a0.Code), (.string a0.Op), (.int .i64 a0.Where)]) (arr' := [(.int .i64 a0.At), (.int .i64 a0.Code), (.string a0.Op), (.int .i64 a0.Where)]) rfl sz63 rfl rfl (onesOf (Ones.cons rfl (Ones.cons rfl (Ones.cons rfl (Ones.cons rfl Ones.nil))))) rfl rfl rfl) rfl ?_
 rintro _ _ _ - ⟨rfl, rfl⟩
 refine Nt ?_
 refine WC.ret ?_
 refine WQ.thenR ?_
 refine WQ.f1 ?_
 refine WQ.drop ?_
 exact WQ.returnsD h [] (fun _ hs => hs.drop) (resultsL1 rfl (RV.cellA (cs := [(.int .i64 a0.At), (.int .i64 a0.Code), (.string a0.Op), (.int .i64 a0.Where)]) 0 ag63 sz63 rfl rfl rfl)) (IM.le.refl _) ⟨rfl, rfl⟩
 have h := ite_f hb23 h
 refine WC.skip ?_
 refine WQ.thenC ?_
 refine Sr ?_
 refine Pu (.pointer (some ⟨g21, 0, none⟩)) (PO.fieldAddr fo63_0 rfl rfl) rfl ?_
 refine Pu (.int .i64 a0.At) (PO.loadB 1 pl3 rfl rfl rfl) rfl ?_
 refine Pm (.int .i64 a3) (hρ 3) rfl ?_
 refine Pm (.string a1) (hρ 1) rfl ?_
 refine Pm (.int .i64 a2) (hρ 2) rfl ?_
 refine Pu (.agg #[(.int .i64 a0.At), (.int .i64 a3), (.string a1), (.int .i64 a2)]) (PO.buildL (cl := [(.int .i64 a0.At), (.int .i64 a3), (.string a1), (.int .i64 a2)]) ze63 fp63 (Parts.cons (congrArg Value.cells (show ev _ _ = (.int .i64 a0.At) from rfl)) (Parts.cons (congrArg Value.cells (show ev _ _ = (.int .i64 a3) from rfl)) (Parts.cons (congrArg Value.cells (show ev _ _ = (.string a1) from rfl)) (Parts.cons (congrArg Value.cells (show ev _ _ = (.int .i64 a2) from rfl)) Parts.nil)))) rfl) rfl ?_
 refine WL.eff (EO.storeL (v := (.agg #[(.int .i64 a0.At), (.int .i64 a3), (.string a1), (.int .i64 a2)])) (vl := [(.int .i64 a0.At), (.int .i64 a3), (.string a1), (.int .i64 a2)]) (arr' := [(.int .i64 a0.At), (.int .i64 a3), (.string a1), (.int .i64 a2)]) rfl sz63 rfl rfl (onesOf (Ones.cons rfl (Ones.cons rfl (Ones.cons rfl (Ones.cons rfl Ones.nil))))) rfl rfl rfl) rfl ?_
 rintro _ _ _ - ⟨rfl, rfl⟩
 refine Nt ?_
 refine WC.ret ?_
 refine WQ.f1 ?_
 refine WQ.drop ?_
 exact WQ.returnsD h [] (fun _ hs => hs.drop) (resultsL1 rfl (RV.cellA (cs := [(.int .i64 a0.At), (.int .i64 a3), (.string a1), (.int .i64 a2)]) 0 ag63 sz63 rfl rfl rfl)) (IM.le.refl _) ⟨rfl, rfl⟩


end Go.Proofs.YtdlilclopmhiaaaDoor.G
