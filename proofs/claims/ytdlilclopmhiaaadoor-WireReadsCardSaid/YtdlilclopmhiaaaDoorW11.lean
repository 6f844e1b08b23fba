/- Go functions: what they come to, and that they do. Printed by a program of the session (gen). -/
import Derived.Test.YtdlilclopmhiaaaDoorWF
import Derived.Test.YtdlilclopmhiaaaDoorW10
set_option linter.unusedVariables false
set_option linter.unusedSimpArgs false
namespace Go.Proofs.YtdlilclopmhiaaaDoor.G
open Go Go.KK

noncomputable def f_law02_WireReads_l0 (a0 : (List Int)) (a1 : (List T_ref02_Ask)) (r30 : T_wire_Reader) (s_ : (Int × Int × GErr × Int × Int × ByteArray × Int)) : Option ((Int × Int × GErr × Int × Int × ByteArray × Int) ⊕ ((Int × Int × ByteArray × Int × Int × GErr) ⊕ (Int × Int × ByteArray × Int × Int × GErr))) :=
  match s_ with
  | (x45, x46, x47, x48, x49, x50, x51) =>
    (if (decide (x45 < (a1.length : Int))) = true then (grd (0 ≤ x45 ∧ x45 < a1.length) ((f_law02_got (⟨r30.b, x46, x47⟩ : T_wire_Reader) (rd a1 x45)).bind fun (r72, r73, r74) => (((grd (0 ≤ x45 ∧ x45 < a1.length) ((f_ref02_Read a0 (⟨x48, x49, x50, x51⟩ : T_ref02_State) (rd a1 x45)).bind fun (r96, r97) => (some (r96, r97.Num, r97.Flag, r97.Text, r97.Row)))) : Option (T_ref02_State × Int × Bool × (List Int) × (List Int))).bind fun (x81, x83, x84, x85, x86) => (((if (decide (r72.Num ≠ x83)) = true then (some true) else (if (!(r72.Flag == x84)) = true then (some true) else ((f_ref02_Same r72.Text x85).bind fun (r149 : Bool) => (if (!r149) = true then (some true) else ((f_ref02_Ints r72.Row x86).bind fun (r158 : Bool) => (if (!r158) = true then (some true) else ((f_wire_Reader_At (⟨r30.b, r73, r74⟩ : T_wire_Reader)).bind fun (r170 : Int) => (if (decide (r170 ≠ x81.At)) = true then (some true) else ((f_wire_Reader_Err (⟨r30.b, r73, r74⟩ : T_wire_Reader)).bind fun (r176 : GErr) => ((f_law02_wrong r176 x81).bind fun (r181 : Bool) => (some (!r181)))))))))))) : Option Bool).bind fun (x145 : Bool) => (if x145 = true then (some (Sum.inr (Sum.inr (x81.At, x81.Code, x81.Op, x81.Where, r73, r74)))) else (some (Sum.inl (IntKind.i64.wrap (x45 + (1 : Int)), r73, r74, x81.At, x81.Code, x81.Op, x81.Where)))))))) else (some (Sum.inr (Sum.inl (x48, x49, x50, x51, x46, x47)))))
noncomputable def f_law02_WireReads (a0 : (List Int)) (a1 : (List T_ref02_Ask)) : Option Bool :=
  (((if (decide ((2000 : Int) < (a0.length : Int))) = true then (some true) else (some (decide ((60 : Int) < (a1.length : Int))))) : Option Bool).bind fun (x21 : Bool) => (if x21 = true then ((f_law02_works).bind fun (r25 : Bool) => (some r25)) else ((f_wire_Read a0).bind fun (r30 : T_wire_Reader) => ((((iter (f_law02_WireReads_l0 a0 a1 r30) ((0 : Int), r30.at_, r30.err, (0 : Int), (0 : Int), (⟨#[]⟩ : ByteArray), (0 : Int))).bind (Sum.elim (fun (x52, x53, x54, x55, x56, x57) => (some (Sum.inl (x52, x53, x54, x55, x56, x57)))) (fun (x58, x59, x60, x61, x62, x63) => (((some false)).bind fun r => some (Sum.inr r))))) : Option ((Int × Int × ByteArray × Int × Int × GErr) ⊕ Bool)).bind (Sum.elim (fun (x37, x38, x39, x40, x41, x42) => ((((f_wire_Reader_End (⟨r30.b, x41, x42⟩ : T_wire_Reader)).bind fun (r190, r191) => ((f_ref02_End a0 (⟨x37, x38, x39, x40⟩ : T_ref02_State)).bind fun (r196 : T_ref02_State) => ((f_law02_wrong r190 r196).bind fun (r201 : Bool) => (if r201 = true then ((f_law02_works).bind fun (r207 : Bool) => (some (r207, r191))) else (some (false, r191)))))) : Option (Bool × GErr)).bind fun (x187, x188) => (some x187))) some)))))
def f_law02_WireReads_post (a0 : (List Int)) (a1 : (List T_ref02_Ask)) (v0 v1 : Value) : Bool → Value → IM → HL → Prop :=
  fun (r0 : Bool) (v : Value) (M' : IM) (H' : HL) => (.bool r0) = v ∧ H' = []
set_option maxHeartbeats 8000000 in
set_option maxRecDepth 100000 in
theorem f_law02_WireReads_ok (a0 : (List Int)) (a1 : (List T_ref02_Ask)) (M : IM) (v0 v1 : Value) (h0 : RS (Kd.int .u8) M v0 a0) (h1 : RS kd_ref02_Ask M v1 a1) (hE : Env M) (res : Bool) (h : f_law02_WireReads a0 a1 = some res) :
    Tri Tryd.prog 7 #[v0, v1] M [] (f_law02_WireReads_post a0 a1 v0 v1 res) := by
 unfold f_law02_WireReads at h
 refine Tri.enter (fn := Tryd.f7) Tryd.func7 rfl (Nat.le_of_ble_eq_true rfl) ?_
 intro F ρ hρ
 refine Sr ?_
 refine Pa (.bool false) rfl rfl ?_
 refine Nt ?_
 refine WC.seq ?_
 obtain ⟨x21, hj22, h⟩ := bnd h
 refine WC.joinF (fun (x21 : Bool) ρ' M' H' => M.le M' ∧ F = H' ∧ ρ' 0 = v0 ∧ ρ' 1 = v1 ∧ ρ' 18 = (.bool x21)) x21 ?_ ?_
 have h322 := h
 have h := hj22
 refine WC.region ?_
 refine Pm v0 (hρ 0) rfl ?_
 refine Pu (.int .i64 (a0.length : Int)) (PO.lenS Tryd.underlying22 rfl h0.len) rfl ?_
 refine Pu (.bool (decide ((2000 : Int) < (a0.length : Int)))) (PO.gtr rfl rfl) rfl ?_
 refine Pm (.bool (decide ((2000 : Int) < (a0.length : Int)))) rfl rfl ?_
 rcases Bool.eq_false_or_eq_true (decide ((2000 : Int) < (a0.length : Int))) with hb23 | hb23
 have h := ite_t hb23 h
 iterate 3 refine Of 14 rfl rfl hb23 rfl ?_
 refine Pu (.bool true) (PO.pickT rfl hb23 rfl) rfl ?_
 refine WL.nil ?_
 obtain rfl := Option.some.inj h
 refine WQ.thenJ ?_
 exact ⟨(IM.le.refl _), rfl, (hρ 0), (hρ 1), rfl⟩
 have h := ite_f hb23 h
 refine On 14 rfl rfl hb23 ?_
 refine Pm v1 (hρ 1) rfl ?_
 refine On 14 rfl rfl hb23 ?_
 refine Pu (.int .i64 (a1.length : Int)) (PO.lenS Tryd.underlying50 rfl h1.len) rfl ?_
 refine On 14 rfl rfl hb23 ?_
 refine Pu (.bool (decide ((60 : Int) < (a1.length : Int)))) (PO.gtr rfl rfl) rfl ?_
 refine Pu (.bool (decide ((60 : Int) < (a1.length : Int)))) (PO.pickF rfl hb23 rfl) rfl ?_
 refine WL.nil ?_
 obtain rfl := Option.some.inj h
 refine WQ.thenJ ?_
 exact ⟨(IM.le.refl _), rfl, (hρ 0), (hρ 1), rfl⟩
 rintro ρ22 M22 H22 ⟨hle22, rfl, hs22_0, hs22_1, hs22_18⟩
 have h0 := h0.mono hle22
 have h1 := h1.mono hle22
 have hE := hE.mono hle22
 refine WC.cond (b := x21) hs22_18 (fun hb24 => ?_) (fun hb24 => ?_)
 have h := ite_t hb24 h
 refine Sr ?_
 obtain ⟨r25, hr26, h⟩ := bnd h
 refine WL.eff (EO.call0 co8 (f_law02_works_ok _ hE r25 hr26) (args0)) rfl ?_
 rintro _ M27 _ hle28 ⟨_, ⟨rfl, rfl⟩, rfl⟩
 have h0 := h0.mono hle28
 have h1 := h1.mono hle28
 have hE := hE.mono hle28
 refine WL.a0 ?_
 refine Pa (.bool r25) rfl rfl ?_
 refine Nt ?_
 refine WC.ret ?_
 refine WQ.thenR ?_
 exact WQ.returnsF h [] rfl (results1 rfl rfl) (hle22.trans hle28) ⟨rfl, rfl⟩
 have h := ite_f hb24 h
 refine WC.skip ?_
 refine WQ.thenC ?_
 refine Sr ?_
 refine Pm v0 hs22_0 rfl ?_
 obtain ⟨r30, hr31, h⟩ := bnd h
 refine WL.eff (EO.call0 co20 (f_wire_Read_ok a0 _ _ h0 r30 hr31) (args1 rfl)) rfl ?_
 rintro _ M32 _ hle33 ⟨_, ⟨g34, vq35_0, rfl, rfl, hq35_0⟩, rfl⟩
 have h0 := h0.mono hle33
 have h1 := h1.mono hle33
 have hE := hE.mono hle33
 refine WL.a1 ?_
 refine Pa (.pointer (some ⟨g34, 0, none⟩)) rfl rfl ?_
 refine Nt ?_
 refine WC.seq ?_
 refine Sr ?_
 refine Pm (.pointer (some ⟨g34, 0, none⟩)) rfl rfl ?_
 refine Pu (.bool false) (PO.ptrNil Tryd.underlying38 rfl) rfl ?_
 refine Nt ?_
 refine WC.condF (b := false) rfl rfl ?_
 refine WC.skip ?_
 refine WQ.thenC ?_
 refine Sr ?_
 refine Pu (.agg #[(.int .i64 (0 : Int)), (.int .i64 (0 : Int)), (.string (⟨#[]⟩ : ByteArray)), (.int .i64 (0 : Int))]) (PO.buildL (cl := [(.int .i64 (0 : Int)), (.int .i64 (0 : Int)), (.string (⟨#[]⟩ : ByteArray)), (.int .i64 (0 : Int))]) ze63 fp63 Parts.nil rfl) rfl ?_
 refine WL.eff (EO.alloc ze63 rfl) rfl ?_
 rintro _ _ _ - ⟨rfl, g36, rfl, rfl⟩
 refine WL.eff (EO.storeL (v := (.agg #[(.int .i64 (0 : Int)), (.int .i64 (0 : Int)), (.string (⟨#[]⟩ : ByteArray)), (.int .i64 (0 : Int))])) (vl := [(.int .i64 (0 : Int)), (.int .i64 (0 : Int)), (.string (⟨#[]⟩ : ByteArray)), (.int .i64 (0 : Int))]) (arr' := [(.int .i64 (0 : Int)), (.int .i64 (0 : Int)), (.string (⟨#[]⟩ : ByteArray)), (.int .i64 (0 : Int))]) rfl sz63 rfl rfl (onesOf (Ones.cons rfl (Ones.cons rfl (Ones.cons rfl (Ones.cons rfl Ones.nil))))) rfl rfl rfl) rfl ?_
 rintro _ _ _ - ⟨rfl, rfl⟩
 refine Nt ?_
 obtain ⟨j43, hj43, h⟩ := bnd h
 refine WC.joinE (fun (p_ : (Int × Int × ByteArray × Int × Int × GErr)) ρ' M' H' => match p_ with | (x37, x38, x39, x40, x41, x42) => M32.le M' ∧ [(g36, .cells #[(.int .i64 x37), (.int .i64 x38), (.string x39), (.int .i64 x40)] 63 (0, 0))] :: [(g34, .cells #[vq35_0, (.int .i64 x41), (GV x42)] 73 (0, 0))] :: F = H' ∧ ρ' 0 = v0 ∧ ρ' 5 = (.pointer (some ⟨g34, 0, none⟩)) ∧ ρ' 6 = (.pointer (some ⟨g36, 0, none⟩))) j43 ?_ ?_
 have h343 := h
 have h := hj43
 refine Sr ?_
 refine Pa (.int .i64 (0 : Int)) rfl rfl ?_
 refine Nt ?_
 refine WC.block ?_
 obtain ⟨e44, he44, hK44⟩ := bnd h
 clear h
 refine WC.loop he44 (fun (p_ : (Int × Int × GErr × Int × Int × ByteArray × Int)) ρ' M' H' => match p_ with | (x45, x46, x47, x48, x49, x50, x51) => M32.le M' ∧ [(g36, .cells #[(.int .i64 x48), (.int .i64 x49), (.string x50), (.int .i64 x51)] 63 (0, 0))] :: [(g34, .cells #[vq35_0, (.int .i64 x46), (GV x47)] 73 (0, 0))] :: F = H' ∧ ρ' 0 = v0 ∧ ρ' 1 = v1 ∧ ρ' 5 = (.pointer (some ⟨g34, 0, none⟩)) ∧ ρ' 6 = (.pointer (some ⟨g36, 0, none⟩)) ∧ ρ' 7 = (.int .i64 x45)) ?_ ?_
 exact ⟨(IM.le.refl _), rfl, hs22_0, hs22_1, rfl, rfl, rfl⟩
 rintro ⟨x45, x46, x47, x48, x49, x50, x51⟩ o44 ρ44 M44 H44 h ⟨hle44, rfl, hs44_0, hs44_1, hs44_5, hs44_6, hs44_7⟩
 unfold f_law02_WireReads_l0 at h
 have h0 := h0.mono hle44
 have h1 := h1.mono hle44
 have hq35_0 := hq35_0.mono hle44
 have hE := hE.mono hle44
 refine WC.seq ?_
 refine Sr ?_
 refine Pm (.int .i64 x45) hs44_7 rfl ?_
 refine Pm v1 hs44_1 rfl ?_
 refine Pu (.int .i64 (a1.length : Int)) (PO.lenS Tryd.underlying50 rfl h1.len) rfl ?_
 refine Pu (.bool (decide (x45 < (a1.length : Int)))) (PO.lss rfl rfl) rfl ?_
 refine Nt ?_
 refine WC.cond (b := decide (x45 < (a1.length : Int))) rfl (fun hb64 => ?_) (fun hb64 => ?_)
 have h := ite_t hb64 h
 refine WC.skip ?_
 refine WQ.thenC ?_
 refine WC.seq ?_
 refine WC.block ?_
 refine Sr ?_
 refine Pm (.pointer (some ⟨g34, 0, none⟩)) hs44_5 rfl ?_
 refine Pm v1 hs44_1 rfl ?_
 refine Pm (.int .i64 x45) hs44_7 rfl ?_
 obtain ⟨hg65, h⟩ := grd_i h
 obtain ⟨p66, cs67, hat68, hrc69, hhas70⟩ := h1.at hg65.1 hg65.2 (by decide)
 obtain rfl := kd_ref02_Ask_open hrc69
 refine Pu (.pointer (some p66)) (PO.indexAddr (n := a1.length) Tryd.underlying50 sz55 rfl rfl hg65.1 hg65.2 hat68) rfl ?_
 refine Pu (.agg #[(.int .i64 ((rd a1 x45).Kind)), (.int .i64 ((rd a1 x45).Most)), (.int .i64 ((rd a1 x45).Each))]) (PO.loadMA (cs := [(.int .i64 ((rd a1 x45).Kind)), (.int .i64 ((rd a1 x45).Most)), (.int .i64 ((rd a1 x45).Each))]) ag55 sz55 rfl hhas70) rfl ?_
 obtain ⟨⟨r72, r73, r74⟩, hr75, h⟩ := bnd h
 refine WL.f1 ?_
 refine WL.eff (EO.call1 co30 (f_law02_got_ok (⟨r30.b, x46, x47⟩ : T_wire_Reader) (rd a1 x45) _ _ _ hq35_0 (r72, r73, r74) hr75) (args2 rfl rfl)) rfl ?_
 rintro _ M76 _ hle77 ⟨_, ⟨vq78_2, cq78_2, vq78_3, cq78_3, rfl, rfl, hq78_2, hq78_3⟩, rfl⟩
 have h0 := h0.mono hle77
 have h1 := h1.mono hle77
 have hhas70 := hhas70.mono hle77
 have hq35_0 := hq35_0.mono hle77
 have hE := hE.mono hle77
 refine WL.a3 ?_
 refine WL.eff (EO.alloc ze52 rfl) rfl ?_
 rintro _ _ _ - ⟨rfl, g79, rfl, rfl⟩
 refine WL.eff (EO.storeL (v := (.agg #[(.int .u64 r72.Num), (.bool r72.Flag), vq78_2, vq78_3])) (vl := [(.int .u64 r72.Num), (.bool r72.Flag), vq78_2, vq78_3]) (arr' := [(.int .u64 r72.Num), (.bool r72.Flag), vq78_2, vq78_3]) rfl sz52 rfl rfl (onesOf (Ones.cons rfl (Ones.cons rfl (Ones.cons (OwnS.one hq78_2) (Ones.cons (OwnS.one hq78_3) Ones.nil))))) rfl rfl rfl) rfl ?_
 rintro _ _ _ - ⟨rfl, rfl⟩
 refine Nt ?_
 obtain ⟨j87, hj87, h⟩ := bnd h
 refine WC.joinF (fun (p_ : (T_ref02_State × Int × Bool × (List Int) × (List Int))) ρ' M' H' => match p_ with | (x81, x83, x84, x85, x86) => ∃ g80 g82 vx85 vx86 cx86, M76.le M' ∧ [(g79, .cells #[(.int .u64 r72.Num), (.bool r72.Flag), vq78_2, vq78_3] 52 (0, 0))] :: [(g34, .cells #[vq35_0, (.int .i64 r73), (GV r74)] 73 (0, 0))] :: [(g36, .cells #[(.int .i64 x48), (.int .i64 x49), (.string x50), (.int .i64 x51)] 63 (0, 0))] :: [(g80, .cells #[(.int .i64 x81.At), (.int .i64 x81.Code), (.string x81.Op), (.int .i64 x81.Where)] 63 (0, 0))] :: [(g82, .cells #[(.int .u64 x83), (.bool x84), vx85, vx86] 52 (0, 0))] :: cq78_2 :: cq78_3 :: cx86 :: F = H' ∧ ρ' 0 = v0 ∧ ρ' 1 = v1 ∧ ρ' 5 = (.pointer (some ⟨g34, 0, none⟩)) ∧ ρ' 6 = (.pointer (some ⟨g36, 0, none⟩)) ∧ ρ' 7 = (.int .i64 x45) ∧ ρ' 8 = (.pointer (some ⟨g79, 0, none⟩)) ∧ ρ' 9 = (.pointer (some ⟨g80, 0, none⟩)) ∧ ρ' 10 = (.pointer (some ⟨g82, 0, none⟩)) ∧ RS (Kd.int .u8) M' vx85 x85 ∧ OwnS (Kd.int .i64) M' vx86 x86 cx86) j87 ?_ ?_
 have h387 := h
 have h := hj87
 refine WC.draw [0, 0, 0, 0, 12, 28, 63, 127, 255, 255, 0, 0, 3583, 8191] (.pure 0 (.pure 1 (.pure 2 (.pure 3 (.pure 4 (.pure 5 (.alt 6 (.pure 7 (.pure 8 (.pure 9 (.alt 10 (.alt 11 (.alt 12 (.alt 13 .done .none) .none) .none) (.alt 11 (.alt 10 (.alt 12 (.alt 13 .done .none) .none) .none) .none))))) (.alt 10 (.alt 6 (.pure 7 (.pure 8 (.pure 9 (.alt 11 (.alt 12 (.alt 13 .done .none) .none) .none)))) (.alt 11 (.alt 6 (.pure 7 (.pure 8 (.pure 9 (.alt 12 (.alt 13 .done .none) .none)))) .none) .none)) (.alt 11 (.alt 6 (.pure 7 (.pure 8 (.pure 9 (.alt 10 (.alt 12 (.alt 13 .done .none) .none) .none)))) (.alt 10 (.alt 6 (.pure 7 (.pure 8 (.pure 9 (.alt 12 (.alt 13 .done .none) .none)))) .none) .none)) .none))))))))) mixed (by kernel_rfl) ?_
 refine Tp v0 rfl (PO.move hs44_0) rfl ?_
 refine Tp (.agg #[(.int .i64 x48), (.int .i64 x49), (.string x50), (.int .i64 x51)]) rfl (PO.loadBA (cs := [(.int .i64 x48), (.int .i64 x49), (.string x50), (.int .i64 x51)]) 4 ag63 sz63 hs44_6 rfl rfl) rfl ?_
 refine Tp v1 rfl (PO.move hs44_1) rfl ?_
 refine Tp (.int .i64 x45) rfl (PO.move hs44_7) rfl ?_
 obtain ⟨hg88, h⟩ := grd_i h
 obtain ⟨p89, cs90, hat91, hrc92, hhas93⟩ := h1.at hg88.1 hg88.2 (by decide)
 obtain rfl := kd_ref02_Ask_open hrc92
 refine Tp (.pointer (some p89)) rfl (PO.indexAddr (n := a1.length) Tryd.underlying50 sz55 rfl rfl hg88.1 hg88.2 hat91) rfl ?_
 refine Tp (.agg #[(.int .i64 ((rd a1 x45).Kind)), (.int .i64 ((rd a1 x45).Most)), (.int .i64 ((rd a1 x45).Each))]) rfl (PO.loadMA (cs := [(.int .i64 ((rd a1 x45).Kind)), (.int .i64 ((rd a1 x45).Most)), (.int .i64 ((rd a1 x45).Each))]) ag55 sz55 rfl hhas93) rfl ?_
 have hk95 := h
 obtain ⟨⟨r96, r97⟩, hr98, h⟩ := bnd h
 refine WT.alt rfl (EO.call0 co34 (f_ref02_Read_ok a0 (⟨x48, x49, x50, x51⟩ : T_ref02_State) (rd a1 x45) _ _ h0 (r96, r97) hr98) (args3 rfl rfl rfl)) rfl ?_ ?_
 rintro _ M99 _ hle100 ⟨_, ⟨vq102_2, vq102_3, cq102_3, rfl, rfl, hq102_2, hq102_3⟩, rfl⟩
 have h0 := h0.mono hle100
 have h1 := h1.mono hle100
 have hhas93 := hhas93.mono hle100
 have hq35_0 := hq35_0.mono hle100
 have hq78_2 := hq78_2.mono hle100
 have hq78_3 := hq78_3.mono hle100
 have hE := hE.mono hle100
 refine ⟨(StabL.anc rfl (StabL.anc rfl (StabL.anc rfl (StabL.anc rfl (StabL.anc rfl (StabL.anc rfl trivial)))))), ?_⟩
 refine WT.a1 ?_
 refine Tp (.tuple #[(.agg #[(.int .i64 r96.At), (.int .i64 r96.Code), (.string r96.Op), (.int .i64 r96.Where)]), (.agg #[(.int .u64 r97.Num), (.bool r97.Flag), vq102_2, vq102_3])]) rfl (PO.move rfl) rfl ?_
 refine Tp (.agg #[(.int .i64 r96.At), (.int .i64 r96.Code), (.string r96.Op), (.int .i64 r96.Where)]) rfl (PO.extract rfl rfl) rfl ?_
 refine Tp (.agg #[(.int .u64 r97.Num), (.bool r97.Flag), vq102_2, vq102_3]) rfl (PO.extract rfl rfl) rfl ?_
 have hk103 := h
 refine WT.alt rfl (EO.alloc ze63 rfl) rfl ?_ ?_
 rintro _ _ _ - ⟨rfl, g104, rfl, rfl⟩
 refine ⟨(StabL.st (StabA.of rfl (PO.extract rfl rfl) rfl) (StabL.st (StabA.of rfl (PO.extract rfl rfl) rfl) (StabL.st (StabA.of rfl (PO.move rfl) rfl) (StabL.st (StabA.of rfl (PO.loadMA (cs := [(.int .i64 ((rd a1 x45).Kind)), (.int .i64 ((rd a1 x45).Most)), (.int .i64 ((rd a1 x45).Each))]) ag55 sz55 rfl hhas93) rfl) (StabL.st (StabA.of rfl (PO.indexAddr (n := a1.length) Tryd.underlying50 sz55 rfl rfl hg88.1 hg88.2 hat91) rfl) (StabL.st (StabA.of rfl (PO.move hs44_7) rfl) (StabL.st (StabA.of rfl (PO.move hs44_1) rfl) (StabL.st (StabA.of rfl (PO.loadBA (cs := [(.int .i64 x48), (.int .i64 x49), (.string x50), (.int .i64 x51)]) 6 ag63 sz63 hs44_6 rfl rfl) rfl) (StabL.st (StabA.of rfl (PO.move hs44_0) rfl) trivial))))))))), ?_⟩
 refine WT.alt rfl (EO.alloc ze52 rfl) rfl ?_ ?_
 rintro _ _ _ - ⟨rfl, g105, rfl, rfl⟩
 refine ⟨(StabL.st (StabA.of rfl (PO.extract rfl rfl) rfl) (StabL.st (StabA.of rfl (PO.extract rfl rfl) rfl) (StabL.st (StabA.of rfl (PO.move rfl) rfl) (StabL.st (StabA.of rfl (PO.loadMA (cs := [(.int .i64 ((rd a1 x45).Kind)), (.int .i64 ((rd a1 x45).Most)), (.int .i64 ((rd a1 x45).Each))]) ag55 sz55 rfl hhas93) rfl) (StabL.st (StabA.of rfl (PO.indexAddr (n := a1.length) Tryd.underlying50 sz55 rfl rfl hg88.1 hg88.2 hat91) rfl) (StabL.st (StabA.of rfl (PO.move hs44_7) rfl) (StabL.st (StabA.of rfl (PO.move hs44_1) rfl) (StabL.st (StabA.of rfl (PO.loadBA (cs := [(.int .i64 x48), (.int .i64 x49), (.string x50), (.int .i64 x51)]) 7 ag63 sz63 hs44_6 rfl rfl) rfl) (StabL.st (StabA.of rfl (PO.move hs44_0) rfl) trivial))))))))), ?_⟩
 refine WT.f1 ?_
 refine WT.alt rfl (EO.storeL (v := (.agg #[(.int .i64 r96.At), (.int .i64 r96.Code), (.string r96.Op), (.int .i64 r96.Where)])) (vl := [(.int .i64 r96.At), (.int .i64 r96.Code), (.string r96.Op), (.int .i64 r96.Where)]) (arr' := [(.int .i64 r96.At), (.int .i64 r96.Code), (.string r96.Op), (.int .i64 r96.Where)]) rfl sz63 rfl rfl (onesOf (Ones.cons rfl (Ones.cons rfl (Ones.cons rfl (Ones.cons rfl Ones.nil))))) rfl rfl rfl) rfl ?_ ?_
 rintro _ _ _ - ⟨rfl, rfl⟩
 refine ⟨(StabL.st (StabA.of rfl (PO.extract rfl rfl) rfl) (StabL.anc rfl (StabL.anc rfl (StabL.anc rfl (StabL.anc rfl (StabL.anc rfl (StabL.anc rfl (StabL.anc rfl (StabL.anc rfl trivial))))))))), ?_⟩
 refine WT.f1 ?_
 refine WT.alt rfl (EO.storeL (v := (.agg #[(.int .u64 r97.Num), (.bool r97.Flag), vq102_2, vq102_3])) (vl := [(.int .u64 r97.Num), (.bool r97.Flag), vq102_2, vq102_3]) (arr' := [(.int .u64 r97.Num), (.bool r97.Flag), vq102_2, vq102_3]) rfl sz52 rfl rfl (onesOf (Ones.cons rfl (Ones.cons rfl (Ones.cons (RS.one hq102_2) (Ones.cons (OwnS.one hq102_3) Ones.nil))))) rfl rfl rfl) rfl ?_ ?_
 rintro _ _ _ - ⟨rfl, rfl⟩
 refine ⟨(StabL.anc rfl (StabL.anc rfl (StabL.anc rfl (StabL.anc rfl (StabL.anc rfl (StabL.anc rfl (StabL.anc rfl (StabL.anc rfl (StabL.anc rfl trivial))))))))), ?_⟩
 refine WT.fin ?_
 refine WQ.f2 ?_
 refine WQ.f6 ?_
 refine WQ.f6 ?_
 refine WQ.f3 ?_
 refine WQ.f4 ?_
 refine WQ.f7 ?_
 refine WQ.f7 ?_
 refine WQ.f7 ?_
 obtain rfl := Option.some.inj h
 refine WQ.thenJ ?_
 exact ⟨g104, g105, vq102_2, vq102_3, cq102_3, hle100, rfl, hs44_0, hs44_1, hs44_5, hs44_6, hs44_7, rfl, rfl, rfl, hq102_2, hq102_3⟩
 exact WT.no
 exact WT.no
 exact WT.no
 have h := hk103
 refine WT.alt rfl (EO.alloc ze52 rfl) rfl ?_ ?_
 rintro _ _ _ - ⟨rfl, g106, rfl, rfl⟩
 refine ⟨(StabL.st (StabA.of rfl (PO.extract rfl rfl) rfl) (StabL.st (StabA.of rfl (PO.extract rfl rfl) rfl) (StabL.st (StabA.of rfl (PO.move rfl) rfl) (StabL.st (StabA.of rfl (PO.loadMA (cs := [(.int .i64 ((rd a1 x45).Kind)), (.int .i64 ((rd a1 x45).Most)), (.int .i64 ((rd a1 x45).Each))]) ag55 sz55 rfl hhas93) rfl) (StabL.st (StabA.of rfl (PO.indexAddr (n := a1.length) Tryd.underlying50 sz55 rfl rfl hg88.1 hg88.2 hat91) rfl) (StabL.st (StabA.of rfl (PO.move hs44_7) rfl) (StabL.st (StabA.of rfl (PO.move hs44_1) rfl) (StabL.st (StabA.of rfl (PO.loadBA (cs := [(.int .i64 x48), (.int .i64 x49), (.string x50), (.int .i64 x51)]) 6 ag63 sz63 hs44_6 rfl rfl) rfl) (StabL.st (StabA.of rfl (PO.move hs44_0) rfl) trivial))))))))), ?_⟩
 refine WT.alt rfl (EO.alloc ze63 rfl) rfl ?_ ?_
 rintro _ _ _ - ⟨rfl, g107, rfl, rfl⟩
 refine ⟨(StabL.st (StabA.of rfl (PO.extract rfl rfl) rfl) (StabL.st (StabA.of rfl (PO.extract rfl rfl) rfl) (StabL.st (StabA.of rfl (PO.move rfl) rfl) (StabL.st (StabA.of rfl (PO.loadMA (cs := [(.int .i64 ((rd a1 x45).Kind)), (.int .i64 ((rd a1 x45).Most)), (.int .i64 ((rd a1 x45).Each))]) ag55 sz55 rfl hhas93) rfl) (StabL.st (StabA.of rfl (PO.indexAddr (n := a1.length) Tryd.underlying50 sz55 rfl rfl hg88.1 hg88.2 hat91) rfl) (StabL.st (StabA.of rfl (PO.move hs44_7) rfl) (StabL.st (StabA.of rfl (PO.move hs44_1) rfl) (StabL.st (StabA.of rfl (PO.loadBA (cs := [(.int .i64 x48), (.int .i64 x49), (.string x50), (.int .i64 x51)]) 7 ag63 sz63 hs44_6 rfl rfl) rfl) (StabL.st (StabA.of rfl (PO.move hs44_0) rfl) trivial))))))))), ?_⟩
 refine WT.alt rfl (EO.storeL (v := (.agg #[(.int .i64 r96.At), (.int .i64 r96.Code), (.string r96.Op), (.int .i64 r96.Where)])) (vl := [(.int .i64 r96.At), (.int .i64 r96.Code), (.string r96.Op), (.int .i64 r96.Where)]) (arr' := [(.int .i64 r96.At), (.int .i64 r96.Code), (.string r96.Op), (.int .i64 r96.Where)]) rfl sz63 rfl rfl (onesOf (Ones.cons rfl (Ones.cons rfl (Ones.cons rfl (Ones.cons rfl Ones.nil))))) rfl rfl rfl) rfl ?_ ?_
 rintro _ _ _ - ⟨rfl, rfl⟩
 refine ⟨(StabL.st (StabA.of rfl (PO.extract rfl rfl) rfl) (StabL.anc rfl (StabL.anc rfl (StabL.anc rfl (StabL.anc rfl (StabL.anc rfl (StabL.anc rfl (StabL.anc rfl (StabL.anc rfl trivial))))))))), ?_⟩
 refine WT.f1 ?_
 refine WT.alt rfl (EO.storeL (v := (.agg #[(.int .u64 r97.Num), (.bool r97.Flag), vq102_2, vq102_3])) (vl := [(.int .u64 r97.Num), (.bool r97.Flag), vq102_2, vq102_3]) (arr' := [(.int .u64 r97.Num), (.bool r97.Flag), vq102_2, vq102_3]) rfl sz52 rfl rfl (onesOf (Ones.cons rfl (Ones.cons rfl (Ones.cons (RS.one hq102_2) (Ones.cons (OwnS.one hq102_3) Ones.nil))))) rfl rfl rfl) rfl ?_ ?_
 rintro _ _ _ - ⟨rfl, rfl⟩
 refine ⟨(StabL.anc rfl (StabL.anc rfl (StabL.anc rfl (StabL.anc rfl (StabL.anc rfl (StabL.anc rfl (StabL.anc rfl (StabL.anc rfl (StabL.anc rfl trivial))))))))), ?_⟩
 refine WT.fin ?_
 refine WQ.f2 ?_
 refine WQ.f6 ?_
 refine WQ.f6 ?_
 refine WQ.f3 ?_
 refine WQ.f4 ?_
 refine WQ.f7 ?_
 refine WQ.f7 ?_
 refine WQ.f7 ?_
 obtain rfl := Option.some.inj h
 refine WQ.thenJ ?_
 exact ⟨g107, g106, vq102_2, vq102_3, cq102_3, hle100, rfl, hs44_0, hs44_1, hs44_5, hs44_6, hs44_7, rfl, rfl, rfl, hq102_2, hq102_3⟩
 exact WT.no
 exact WT.no
 exact WT.no
 exact WT.no
 have h := hk95
 have hk108 := h
 refine WT.alt rfl (EO.alloc ze63 rfl) rfl ?_ ?_
 rintro _ _ _ - ⟨rfl, g109, rfl, rfl⟩
 refine ⟨(StabL.st (StabA.of rfl (PO.loadMA (cs := [(.int .i64 ((rd a1 x45).Kind)), (.int .i64 ((rd a1 x45).Most)), (.int .i64 ((rd a1 x45).Each))]) ag55 sz55 rfl hhas93) rfl) (StabL.st (StabA.of rfl (PO.indexAddr (n := a1.length) Tryd.underlying50 sz55 rfl rfl hg88.1 hg88.2 hat91) rfl) (StabL.st (StabA.of rfl (PO.move hs44_7) rfl) (StabL.st (StabA.of rfl (PO.move hs44_1) rfl) (StabL.st (StabA.of rfl (PO.loadBA (cs := [(.int .i64 x48), (.int .i64 x49), (.string x50), (.int .i64 x51)]) 5 ag63 sz63 hs44_6 rfl rfl) rfl) (StabL.st (StabA.of rfl (PO.move hs44_0) rfl) trivial)))))), ?_⟩
 have hk110 := h
 obtain ⟨⟨r111, r112⟩, hr113, h⟩ := bnd h
 refine WT.alt rfl (EO.call0 co34 (f_ref02_Read_ok a0 (⟨x48, x49, x50, x51⟩ : T_ref02_State) (rd a1 x45) _ _ h0 (r111, r112) hr113) (args3 rfl rfl rfl)) rfl ?_ ?_
 rintro _ M114 _ hle115 ⟨_, ⟨vq117_2, vq117_3, cq117_3, rfl, rfl, hq117_2, hq117_3⟩, rfl⟩
 have h0 := h0.mono hle115
 have h1 := h1.mono hle115
 have hhas93 := hhas93.mono hle115
 have hq35_0 := hq35_0.mono hle115
 have hq78_2 := hq78_2.mono hle115
 have hq78_3 := hq78_3.mono hle115
 have hE := hE.mono hle115
 refine ⟨(StabL.anc rfl (StabL.anc rfl (StabL.anc rfl (StabL.anc rfl (StabL.anc rfl (StabL.anc rfl trivial)))))), ?_⟩
 refine WT.a1 ?_
 refine Tp (.tuple #[(.agg #[(.int .i64 r111.At), (.int .i64 r111.Code), (.string r111.Op), (.int .i64 r111.Where)]), (.agg #[(.int .u64 r112.Num), (.bool r112.Flag), vq117_2, vq117_3])]) rfl (PO.move rfl) rfl ?_
 refine Tp (.agg #[(.int .i64 r111.At), (.int .i64 r111.Code), (.string r111.Op), (.int .i64 r111.Where)]) rfl (PO.extract rfl rfl) rfl ?_
 refine Tp (.agg #[(.int .u64 r112.Num), (.bool r112.Flag), vq117_2, vq117_3]) rfl (PO.extract rfl rfl) rfl ?_
 refine WT.alt rfl (EO.alloc ze52 rfl) rfl ?_ ?_
 rintro _ _ _ - ⟨rfl, g118, rfl, rfl⟩
 refine ⟨(StabL.st (StabA.of rfl (PO.extract rfl rfl) rfl) (StabL.st (StabA.of rfl (PO.extract rfl rfl) rfl) (StabL.st (StabA.of rfl (PO.move rfl) rfl) (StabL.st (StabA.of rfl (PO.loadMA (cs := [(.int .i64 ((rd a1 x45).Kind)), (.int .i64 ((rd a1 x45).Most)), (.int .i64 ((rd a1 x45).Each))]) ag55 sz55 rfl hhas93) rfl) (StabL.st (StabA.of rfl (PO.indexAddr (n := a1.length) Tryd.underlying50 sz55 rfl rfl hg88.1 hg88.2 hat91) rfl) (StabL.st (StabA.of rfl (PO.move hs44_7) rfl) (StabL.st (StabA.of rfl (PO.move hs44_1) rfl) (StabL.st (StabA.of rfl (PO.loadBA (cs := [(.int .i64 x48), (.int .i64 x49), (.string x50), (.int .i64 x51)]) 7 ag63 sz63 hs44_6 rfl rfl) rfl) (StabL.st (StabA.of rfl (PO.move hs44_0) rfl) trivial))))))))), ?_⟩
 refine WT.f2 ?_
 refine WT.alt rfl (EO.storeL (v := (.agg #[(.int .i64 r111.At), (.int .i64 r111.Code), (.string r111.Op), (.int .i64 r111.Where)])) (vl := [(.int .i64 r111.At), (.int .i64 r111.Code), (.string r111.Op), (.int .i64 r111.Where)]) (arr' := [(.int .i64 r111.At), (.int .i64 r111.Code), (.string r111.Op), (.int .i64 r111.Where)]) rfl sz63 rfl rfl (onesOf (Ones.cons rfl (Ones.cons rfl (Ones.cons rfl (Ones.cons rfl Ones.nil))))) rfl rfl rfl) rfl ?_ ?_
 rintro _ _ _ - ⟨rfl, rfl⟩
 refine ⟨(StabL.st (StabA.of rfl (PO.extract rfl rfl) rfl) (StabL.anc rfl (StabL.anc rfl (StabL.anc rfl (StabL.anc rfl (StabL.anc rfl (StabL.anc rfl (StabL.anc rfl (StabL.anc rfl trivial))))))))), ?_⟩
 refine WT.f1 ?_
 refine WT.alt rfl (EO.storeL (v := (.agg #[(.int .u64 r112.Num), (.bool r112.Flag), vq117_2, vq117_3])) (vl := [(.int .u64 r112.Num), (.bool r112.Flag), vq117_2, vq117_3]) (arr' := [(.int .u64 r112.Num), (.bool r112.Flag), vq117_2, vq117_3]) rfl sz52 rfl rfl (onesOf (Ones.cons rfl (Ones.cons rfl (Ones.cons (RS.one hq117_2) (Ones.cons (OwnS.one hq117_3) Ones.nil))))) rfl rfl rfl) rfl ?_ ?_
 rintro _ _ _ - ⟨rfl, rfl⟩
 refine ⟨(StabL.anc rfl (StabL.anc rfl (StabL.anc rfl (StabL.anc rfl (StabL.anc rfl (StabL.anc rfl (StabL.anc rfl (StabL.anc rfl (StabL.anc rfl trivial))))))))), ?_⟩
 refine WT.fin ?_
 refine WQ.f2 ?_
 refine WQ.f6 ?_
 refine WQ.f6 ?_
 refine WQ.f3 ?_
 refine WQ.f4 ?_
 refine WQ.f7 ?_
 refine WQ.f7 ?_
 refine WQ.f7 ?_
 obtain rfl := Option.some.inj h
 refine WQ.thenJ ?_
 exact ⟨g109, g118, vq117_2, vq117_3, cq117_3, hle115, rfl, hs44_0, hs44_1, hs44_5, hs44_6, hs44_7, rfl, rfl, rfl, hq117_2, hq117_3⟩
 exact WT.no
 exact WT.no
 exact WT.no
 have h := hk110
 refine WT.alt rfl (EO.alloc ze52 rfl) rfl ?_ ?_
 rintro _ _ _ - ⟨rfl, g119, rfl, rfl⟩
 refine ⟨(StabL.st (StabA.of rfl (PO.loadMA (cs := [(.int .i64 ((rd a1 x45).Kind)), (.int .i64 ((rd a1 x45).Most)), (.int .i64 ((rd a1 x45).Each))]) ag55 sz55 rfl hhas93) rfl) (StabL.st (StabA.of rfl (PO.indexAddr (n := a1.length) Tryd.underlying50 sz55 rfl rfl hg88.1 hg88.2 hat91) rfl) (StabL.st (StabA.of rfl (PO.move hs44_7) rfl) (StabL.st (StabA.of rfl (PO.move hs44_1) rfl) (StabL.st (StabA.of rfl (PO.loadBA (cs := [(.int .i64 x48), (.int .i64 x49), (.string x50), (.int .i64 x51)]) 6 ag63 sz63 hs44_6 rfl rfl) rfl) (StabL.st (StabA.of rfl (PO.move hs44_0) rfl) trivial)))))), ?_⟩
 obtain ⟨⟨r120, r121⟩, hr122, h⟩ := bnd h
 refine WT.alt rfl (EO.call0 co34 (f_ref02_Read_ok a0 (⟨x48, x49, x50, x51⟩ : T_ref02_State) (rd a1 x45) _ _ h0 (r120, r121) hr122) (args3 rfl rfl rfl)) rfl ?_ ?_
 rintro _ M123 _ hle124 ⟨_, ⟨vq126_2, vq126_3, cq126_3, rfl, rfl, hq126_2, hq126_3⟩, rfl⟩
 have h0 := h0.mono hle124
 have h1 := h1.mono hle124
 have hhas93 := hhas93.mono hle124
 have hq35_0 := hq35_0.mono hle124
 have hq78_2 := hq78_2.mono hle124
 have hq78_3 := hq78_3.mono hle124
 have hE := hE.mono hle124
 refine ⟨(StabL.anc rfl (StabL.anc rfl (StabL.anc rfl (StabL.anc rfl (StabL.anc rfl (StabL.anc rfl trivial)))))), ?_⟩
 refine WT.a1 ?_
 refine Tp (.tuple #[(.agg #[(.int .i64 r120.At), (.int .i64 r120.Code), (.string r120.Op), (.int .i64 r120.Where)]), (.agg #[(.int .u64 r121.Num), (.bool r121.Flag), vq126_2, vq126_3])]) rfl (PO.move rfl) rfl ?_
 refine Tp (.agg #[(.int .i64 r120.At), (.int .i64 r120.Code), (.string r120.Op), (.int .i64 r120.Where)]) rfl (PO.extract rfl rfl) rfl ?_
 refine Tp (.agg #[(.int .u64 r121.Num), (.bool r121.Flag), vq126_2, vq126_3]) rfl (PO.extract rfl rfl) rfl ?_
 refine WT.f2 ?_
 refine WT.alt rfl (EO.storeL (v := (.agg #[(.int .i64 r120.At), (.int .i64 r120.Code), (.string r120.Op), (.int .i64 r120.Where)])) (vl := [(.int .i64 r120.At), (.int .i64 r120.Code), (.string r120.Op), (.int .i64 r120.Where)]) (arr' := [(.int .i64 r120.At), (.int .i64 r120.Code), (.string r120.Op), (.int .i64 r120.Where)]) rfl sz63 rfl rfl (onesOf (Ones.cons rfl (Ones.cons rfl (Ones.cons rfl (Ones.cons rfl Ones.nil))))) rfl rfl rfl) rfl ?_ ?_
 rintro _ _ _ - ⟨rfl, rfl⟩
 refine ⟨(StabL.st (StabA.of rfl (PO.extract rfl rfl) rfl) (StabL.anc rfl (StabL.anc rfl (StabL.anc rfl (StabL.anc rfl (StabL.anc rfl (StabL.anc rfl (StabL.anc rfl (StabL.anc rfl trivial))))))))), ?_⟩
 refine WT.f2 ?_
 refine WT.alt rfl (EO.storeL (v := (.agg #[(.int .u64 r121.Num), (.bool r121.Flag), vq126_2, vq126_3])) (vl := [(.int .u64 r121.Num), (.bool r121.Flag), vq126_2, vq126_3]) (arr' := [(.int .u64 r121.Num), (.bool r121.Flag), vq126_2, vq126_3]) rfl sz52 rfl rfl (onesOf (Ones.cons rfl (Ones.cons rfl (Ones.cons (RS.one hq126_2) (Ones.cons (OwnS.one hq126_3) Ones.nil))))) rfl rfl rfl) rfl ?_ ?_
 rintro _ _ _ - ⟨rfl, rfl⟩
 refine ⟨(StabL.anc rfl (StabL.anc rfl (StabL.anc rfl (StabL.anc rfl (StabL.anc rfl (StabL.anc rfl (StabL.anc rfl (StabL.anc rfl (StabL.anc rfl trivial))))))))), ?_⟩
 refine WT.fin ?_
 refine WQ.f2 ?_
 refine WQ.f6 ?_
 refine WQ.f6 ?_
 refine WQ.f3 ?_
 refine WQ.f4 ?_
 refine WQ.f7 ?_
 refine WQ.f7 ?_
 refine WQ.f7 ?_
 obtain rfl := Option.some.inj h
 refine WQ.thenJ ?_
 exact ⟨g109, g119, vq126_2, vq126_3, cq126_3, hle124, rfl, hs44_0, hs44_1, hs44_5, hs44_6, hs44_7, rfl, rfl, rfl, hq126_2, hq126_3⟩
 exact WT.no
 exact WT.no
 exact WT.no
 exact WT.no
 have h := hk108
 refine WT.alt rfl (EO.alloc ze52 rfl) rfl ?_ ?_
 rintro _ _ _ - ⟨rfl, g127, rfl, rfl⟩
 refine ⟨(StabL.st (StabA.of rfl (PO.loadMA (cs := [(.int .i64 ((rd a1 x45).Kind)), (.int .i64 ((rd a1 x45).Most)), (.int .i64 ((rd a1 x45).Each))]) ag55 sz55 rfl hhas93) rfl) (StabL.st (StabA.of rfl (PO.indexAddr (n := a1.length) Tryd.underlying50 sz55 rfl rfl hg88.1 hg88.2 hat91) rfl) (StabL.st (StabA.of rfl (PO.move hs44_7) rfl) (StabL.st (StabA.of rfl (PO.move hs44_1) rfl) (StabL.st (StabA.of rfl (PO.loadBA (cs := [(.int .i64 x48), (.int .i64 x49), (.string x50), (.int .i64 x51)]) 5 ag63 sz63 hs44_6 rfl rfl) rfl) (StabL.st (StabA.of rfl (PO.move hs44_0) rfl) trivial)))))), ?_⟩
 have hk128 := h
 obtain ⟨⟨r129, r130⟩, hr131, h⟩ := bnd h
 refine WT.alt rfl (EO.call0 co34 (f_ref02_Read_ok a0 (⟨x48, x49, x50, x51⟩ : T_ref02_State) (rd a1 x45) _ _ h0 (r129, r130) hr131) (args3 rfl rfl rfl)) rfl ?_ ?_
 rintro _ M132 _ hle133 ⟨_, ⟨vq135_2, vq135_3, cq135_3, rfl, rfl, hq135_2, hq135_3⟩, rfl⟩
 have h0 := h0.mono hle133
 have h1 := h1.mono hle133
 have hhas93 := hhas93.mono hle133
 have hq35_0 := hq35_0.mono hle133
 have hq78_2 := hq78_2.mono hle133
 have hq78_3 := hq78_3.mono hle133
 have hE := hE.mono hle133
 refine ⟨(StabL.anc rfl (StabL.anc rfl (StabL.anc rfl (StabL.anc rfl (StabL.anc rfl (StabL.anc rfl trivial)))))), ?_⟩
 refine WT.a1 ?_
 refine Tp (.tuple #[(.agg #[(.int .i64 r129.At), (.int .i64 r129.Code), (.string r129.Op), (.int .i64 r129.Where)]), (.agg #[(.int .u64 r130.Num), (.bool r130.Flag), vq135_2, vq135_3])]) rfl (PO.move rfl) rfl ?_
 refine Tp (.agg #[(.int .i64 r129.At), (.int .i64 r129.Code), (.string r129.Op), (.int .i64 r129.Where)]) rfl (PO.extract rfl rfl) rfl ?_
 refine Tp (.agg #[(.int .u64 r130.Num), (.bool r130.Flag), vq135_2, vq135_3]) rfl (PO.extract rfl rfl) rfl ?_
 refine WT.alt rfl (EO.alloc ze63 rfl) rfl ?_ ?_
 rintro _ _ _ - ⟨rfl, g136, rfl, rfl⟩
 refine ⟨(StabL.st (StabA.of rfl (PO.extract rfl rfl) rfl) (StabL.st (StabA.of rfl (PO.extract rfl rfl) rfl) (StabL.st (StabA.of rfl (PO.move rfl) rfl) (StabL.st (StabA.of rfl (PO.loadMA (cs := [(.int .i64 ((rd a1 x45).Kind)), (.int .i64 ((rd a1 x45).Most)), (.int .i64 ((rd a1 x45).Each))]) ag55 sz55 rfl hhas93) rfl) (StabL.st (StabA.of rfl (PO.indexAddr (n := a1.length) Tryd.underlying50 sz55 rfl rfl hg88.1 hg88.2 hat91) rfl) (StabL.st (StabA.of rfl (PO.move hs44_7) rfl) (StabL.st (StabA.of rfl (PO.move hs44_1) rfl) (StabL.st (StabA.of rfl (PO.loadBA (cs := [(.int .i64 x48), (.int .i64 x49), (.string x50), (.int .i64 x51)]) 7 ag63 sz63 hs44_6 rfl rfl) rfl) (StabL.st (StabA.of rfl (PO.move hs44_0) rfl) trivial))))))))), ?_⟩
 refine WT.alt rfl (EO.storeL (v := (.agg #[(.int .i64 r129.At), (.int .i64 r129.Code), (.string r129.Op), (.int .i64 r129.Where)])) (vl := [(.int .i64 r129.At), (.int .i64 r129.Code), (.string r129.Op), (.int .i64 r129.Where)]) (arr' := [(.int .i64 r129.At), (.int .i64 r129.Code), (.string r129.Op), (.int .i64 r129.Where)]) rfl sz63 rfl rfl (onesOf (Ones.cons rfl (Ones.cons rfl (Ones.cons rfl (Ones.cons rfl Ones.nil))))) rfl rfl rfl) rfl ?_ ?_
 rintro _ _ _ - ⟨rfl, rfl⟩
 refine ⟨(StabL.st (StabA.of rfl (PO.extract rfl rfl) rfl) (StabL.anc rfl (StabL.anc rfl (StabL.anc rfl (StabL.anc rfl (StabL.anc rfl (StabL.anc rfl (StabL.anc rfl (StabL.anc rfl trivial))))))))), ?_⟩
 refine WT.f2 ?_
 refine WT.alt rfl (EO.storeL (v := (.agg #[(.int .u64 r130.Num), (.bool r130.Flag), vq135_2, vq135_3])) (vl := [(.int .u64 r130.Num), (.bool r130.Flag), vq135_2, vq135_3]) (arr' := [(.int .u64 r130.Num), (.bool r130.Flag), vq135_2, vq135_3]) rfl sz52 rfl rfl (onesOf (Ones.cons rfl (Ones.cons rfl (Ones.cons (RS.one hq135_2) (Ones.cons (OwnS.one hq135_3) Ones.nil))))) rfl rfl rfl) rfl ?_ ?_
 rintro _ _ _ - ⟨rfl, rfl⟩
 refine ⟨(StabL.anc rfl (StabL.anc rfl (StabL.anc rfl (StabL.anc rfl (StabL.anc rfl (StabL.anc rfl (StabL.anc rfl (StabL.anc rfl (StabL.anc rfl trivial))))))))), ?_⟩
 refine WT.fin ?_
 refine WQ.f2 ?_
 refine WQ.f6 ?_
 refine WQ.f6 ?_
 refine WQ.f3 ?_
 refine WQ.f4 ?_
 refine WQ.f7 ?_
 refine WQ.f7 ?_
 refine WQ.f7 ?_
 obtain rfl := Option.some.inj h
 refine WQ.thenJ ?_
 exact ⟨g136, g127, vq135_2, vq135_3, cq135_3, hle133, rfl, hs44_0, hs44_1, hs44_5, hs44_6, hs44_7, rfl, rfl, rfl, hq135_2, hq135_3⟩
 exact WT.no
 exact WT.no
 exact WT.no
 have h := hk128
 refine WT.alt rfl (EO.alloc ze63 rfl) rfl ?_ ?_
 rintro _ _ _ - ⟨rfl, g137, rfl, rfl⟩
 refine ⟨(StabL.st (StabA.of rfl (PO.loadMA (cs := [(.int .i64 ((rd a1 x45).Kind)), (.int .i64 ((rd a1 x45).Most)), (.int .i64 ((rd a1 x45).Each))]) ag55 sz55 rfl hhas93) rfl) (StabL.st (StabA.of rfl (PO.indexAddr (n := a1.length) Tryd.underlying50 sz55 rfl rfl hg88.1 hg88.2 hat91) rfl) (StabL.st (StabA.of rfl (PO.move hs44_7) rfl) (StabL.st (StabA.of rfl (PO.move hs44_1) rfl) (StabL.st (StabA.of rfl (PO.loadBA (cs := [(.int .i64 x48), (.int .i64 x49), (.string x50), (.int .i64 x51)]) 6 ag63 sz63 hs44_6 rfl rfl) rfl) (StabL.st (StabA.of rfl (PO.move hs44_0) rfl) trivial)))))), ?_⟩
 obtain ⟨⟨r138, r139⟩, hr140, h⟩ := bnd h
 refine WT.alt rfl (EO.call0 co34 (f_ref02_Read_ok a0 (⟨x48, x49, x50, x51⟩ : T_ref02_State) (rd a1 x45) _ _ h0 (r138, r139) hr140) (args3 rfl rfl rfl)) rfl ?_ ?_
 rintro _ M141 _ hle142 ⟨_, ⟨vq144_2, vq144_3, cq144_3, rfl, rfl, hq144_2, hq144_3⟩, rfl⟩
 have h0 := h0.mono hle142
 have h1 := h1.mono hle142
 have hhas93 := hhas93.mono hle142
 have hq35_0 := hq35_0.mono hle142
 have hq78_2 := hq78_2.mono hle142
 have hq78_3 := hq78_3.mono hle142
 have hE := hE.mono hle142
 refine ⟨(StabL.anc rfl (StabL.anc rfl (StabL.anc rfl (StabL.anc rfl (StabL.anc rfl (StabL.anc rfl trivial)))))), ?_⟩
 refine WT.a1 ?_
 refine Tp (.tuple #[(.agg #[(.int .i64 r138.At), (.int .i64 r138.Code), (.string r138.Op), (.int .i64 r138.Where)]), (.agg #[(.int .u64 r139.Num), (.bool r139.Flag), vq144_2, vq144_3])]) rfl (PO.move rfl) rfl ?_
 refine Tp (.agg #[(.int .i64 r138.At), (.int .i64 r138.Code), (.string r138.Op), (.int .i64 r138.Where)]) rfl (PO.extract rfl rfl) rfl ?_
 refine Tp (.agg #[(.int .u64 r139.Num), (.bool r139.Flag), vq144_2, vq144_3]) rfl (PO.extract rfl rfl) rfl ?_
 refine WT.f1 ?_
 refine WT.alt rfl (EO.storeL (v := (.agg #[(.int .i64 r138.At), (.int .i64 r138.Code), (.string r138.Op), (.int .i64 r138.Where)])) (vl := [(.int .i64 r138.At), (.int .i64 r138.Code), (.string r138.Op), (.int .i64 r138.Where)]) (arr' := [(.int .i64 r138.At), (.int .i64 r138.Code), (.string r138.Op), (.int .i64 r138.Where)]) rfl sz63 rfl rfl (onesOf (Ones.cons rfl (Ones.cons rfl (Ones.cons rfl (Ones.cons rfl Ones.nil))))) rfl rfl rfl) rfl ?_ ?_
 rintro _ _ _ - ⟨rfl, rfl⟩
 refine ⟨(StabL.st (StabA.of rfl (PO.extract rfl rfl) rfl) (StabL.anc rfl (StabL.anc rfl (StabL.anc rfl (StabL.anc rfl (StabL.anc rfl (StabL.anc rfl (StabL.anc rfl (StabL.anc rfl trivial))))))))), ?_⟩
 refine WT.f2 ?_
 refine WT.alt rfl (EO.storeL (v := (.agg #[(.int .u64 r139.Num), (.bool r139.Flag), vq144_2, vq144_3])) (vl := [(.int .u64 r139.Num), (.bool r139.Flag), vq144_2, vq144_3]) (arr' := [(.int .u64 r139.Num), (.bool r139.Flag), vq144_2, vq144_3]) rfl sz52 rfl rfl (onesOf (Ones.cons rfl (Ones.cons rfl (Ones.cons (RS.one hq144_2) (Ones.cons (OwnS.one hq144_3) Ones.nil))))) rfl rfl rfl) rfl ?_ ?_
 rintro _ _ _ - ⟨rfl, rfl⟩
 refine ⟨(StabL.anc rfl (StabL.anc rfl (StabL.anc rfl (StabL.anc rfl (StabL.anc rfl (StabL.anc rfl (StabL.anc rfl (StabL.anc rfl (StabL.anc rfl trivial))))))))), ?_⟩
 refine WT.fin ?_
 refine WQ.f2 ?_
 refine WQ.f6 ?_
 refine WQ.f6 ?_
 refine WQ.f3 ?_
 refine WQ.f4 ?_
 refine WQ.f7 ?_
 refine WQ.f7 ?_
 refine WQ.f7 ?_
 obtain rfl := Option.some.inj h
 refine WQ.thenJ ?_
 exact ⟨g137, g127, vq144_2, vq144_3, cq144_3, hle142, rfl, hs44_0, hs44_1, hs44_5, hs44_6, hs44_7, rfl, rfl, rfl, hq144_2, hq144_3⟩
 exact WT.no
 exact WT.no
 exact WT.no
 exact WT.no
 exact WT.no
 obtain ⟨x81, x83, x84, x85, x86⟩ := j87
 rintro ρ87 M87 H87 ⟨g80, g82, vx85, vx86, cx86, hle87, rfl, hs87_0, hs87_1, hs87_5, hs87_6, hs87_7, hs87_8, hs87_9, hs87_10, hx85, hx86⟩
 have h0 := h0.mono hle87
 have h1 := h1.mono hle87
 have hq78_2 := hq78_2.mono hle87
 have hq78_3 := hq78_3.mono hle87
 have hq35_0 := hq35_0.mono hle87
 have hE := hE.mono hle87
 refine Sr ?_
 refine Pu (.agg #[(.int .i64 x81.At), (.int .i64 x81.Code), (.string x81.Op), (.int .i64 x81.Where)]) (PO.loadBA (cs := [(.int .i64 x81.At), (.int .i64 x81.Code), (.string x81.Op), (.int .i64 x81.Where)]) 3 ag63 sz63 hs87_9 rfl rfl) rfl ?_
 refine WL.f2 ?_
 refine WL.eff (EO.storeL (v := (.agg #[(.int .i64 x81.At), (.int .i64 x81.Code), (.string x81.Op), (.int .i64 x81.Where)])) (vl := [(.int .i64 x81.At), (.int .i64 x81.Code), (.string x81.Op), (.int .i64 x81.Where)]) (arr' := [(.int .i64 x81.At), (.int .i64 x81.Code), (.string x81.Op), (.int .i64 x81.Where)]) rfl sz63 hs87_6 rfl (onesOf (Ones.cons rfl (Ones.cons rfl (Ones.cons rfl (Ones.cons rfl Ones.nil))))) rfl rfl rfl) rfl ?_
 rintro _ _ _ - ⟨rfl, rfl⟩
 refine Nt ?_
 obtain ⟨x145, hj146, h⟩ := bnd h
 refine WC.joinF (fun (x145 : Bool) ρ' M' H' => M87.le M' ∧ [(g36, .cells #[(.int .i64 x81.At), (.int .i64 x81.Code), (.string x81.Op), (.int .i64 x81.Where)] 63 (0, 0))] :: [(g79, .cells #[(.int .u64 r72.Num), (.bool r72.Flag), vq78_2, vq78_3] 52 (0, 0))] :: [(g34, .cells #[vq35_0, (.int .i64 r73), (GV r74)] 73 (0, 0))] :: [(g80, .cells #[(.int .i64 x81.At), (.int .i64 x81.Code), (.string x81.Op), (.int .i64 x81.Where)] 63 (0, 0))] :: [(g82, .cells #[(.int .u64 x83), (.bool x84), vx85, vx86] 52 (0, 0))] :: cq78_2 :: cq78_3 :: cx86 :: F = H' ∧ ρ' 0 = v0 ∧ ρ' 1 = v1 ∧ ρ' 5 = (.pointer (some ⟨g34, 0, none⟩)) ∧ ρ' 6 = (.pointer (some ⟨g36, 0, none⟩)) ∧ ρ' 7 = (.int .i64 x45) ∧ ρ' 89 = (.bool x145)) x145 ?_ ?_
 have h3146 := h
 have h := hj146
 refine WC.draw [0, 1, 0, 4, 15, 31, 63, 127, 63, 319, 1023, 2047, 4095, 8191, 16383, 8191, 40959, 131071, 262143, 524287, 1048575, 2097151, 4194303, 2097151, 10485759, 33554431, 67108863, 134217727, 268435455, 536870911, 1073741823, 536870911, 2684354559, 8589934591, 17179869183, 34359738367, 68719476735, 137438953471, 68719476735, 549755813887, 1099511627775, 2199023255551] (.pure 0 (.pure 1 (.pure 2 (.pure 3 (.pure 4 (.pure 5 (.pure 6 (.pure 7 (.pure 8 (.pure 9 (.pure 10 (.pure 11 (.pure 12 (.pure 13 (.pure 14 (.pure 15 (.pure 16 (.alt 17 (.pure 18 (.pure 19 (.pure 20 (.pure 21 (.pure 22 (.pure 23 (.pure 24 (.alt 25 (.pure 26 (.pure 27 (.pure 28 (.pure 29 (.pure 31 (.pure 32 (.alt 30 (.pure 33 (.pure 34 (.pure 35 (.pure 36 (.pure 38 (.alt 37 (.alt 39 (.pure 40 (.pure 41 .done)) .none) .none)))))) .none))))))) .none)))))))) .none)))))))))))))))))) mixed (by kernel_rfl) ?_
 refine Tp (.pointer (some ⟨g79, 0, none⟩)) rfl (PO.fieldAddr fo52_0 hs87_8 rfl) rfl ?_
 refine Tp (.int .u64 r72.Num) rfl (PO.loadB 1 pl23 rfl rfl rfl) rfl ?_
 refine Tp (.pointer (some ⟨g82, 0, none⟩)) rfl (PO.fieldAddr fo52_0 hs87_10 rfl) rfl ?_
 refine Tp (.int .u64 x83) rfl (PO.loadB 4 pl23 rfl rfl rfl) rfl ?_
 refine Tp (.bool (decide (r72.Num ≠ x83))) rfl (PO.neq rfl rfl) rfl ?_
 refine Tp (.bool (decide (r72.Num ≠ x83))) rfl (PO.move rfl) rfl ?_
 rcases Bool.eq_false_or_eq_true (decide (r72.Num ≠ x83)) with hb147 | hb147
 have h := ite_t hb147 h
 refine WT.pureOff 53 rfl rfl rfl hb147 rfl ?_
 refine WT.pureOff 53 rfl rfl rfl hb147 rfl ?_
 refine WT.pureOff 53 rfl rfl rfl hb147 rfl ?_
 refine WT.pureOff 53 rfl rfl rfl hb147 rfl ?_
 refine WT.pureOff 53 rfl rfl rfl hb147 rfl ?_
 refine Tp (.bool true) rfl (PO.pickT rfl hb147 rfl) rfl ?_
 refine Tp (.bool true) rfl (PO.move rfl) rfl ?_
 refine WT.pureOff 60 rfl rfl rfl rfl rfl ?_
 refine WT.pureOff 60 rfl rfl rfl rfl rfl ?_
 refine WT.pureOff 60 rfl rfl rfl rfl rfl ?_
 refine WT.pureOff 60 rfl rfl rfl rfl rfl ?_
 refine WT.altOff 60 rfl rfl rfl rfl rfl ⟨(StabL.anc rfl (StabL.anc rfl (StabL.anc rfl (StabL.anc rfl (StabL.anc rfl (StabL.anc rfl (StabL.anc rfl (StabL.anc rfl (StabL.anc rfl (StabL.anc rfl (StabL.anc rfl (StabL.anc rfl (StabL.anc rfl (StabL.anc rfl (StabL.anc rfl (StabL.anc rfl (StabL.anc rfl trivial))))))))))))))))), ?_⟩ ?_
 refine WT.pureOff 60 rfl rfl rfl rfl rfl ?_
 refine Tp (.bool true) rfl (PO.pickT rfl rfl rfl) rfl ?_
 refine Tp (.bool true) rfl (PO.move rfl) rfl ?_
 refine WT.pureOff 68 rfl rfl rfl rfl rfl ?_
 refine WT.pureOff 68 rfl rfl rfl rfl rfl ?_
 refine WT.pureOff 68 rfl rfl rfl rfl rfl ?_
 refine WT.pureOff 68 rfl rfl rfl rfl rfl ?_
 refine WT.altOff 68 rfl rfl rfl rfl rfl ⟨(StabL.anc rfl (StabL.anc rfl (StabL.anc rfl (StabL.anc rfl (StabL.anc rfl (StabL.anc rfl (StabL.anc rfl (StabL.anc rfl (StabL.anc rfl (StabL.anc rfl (StabL.anc rfl (StabL.anc rfl (StabL.anc rfl (StabL.anc rfl (StabL.anc rfl (StabL.anc rfl (StabL.anc rfl (StabL.anc rfl (StabL.anc rfl (StabL.anc rfl (StabL.anc rfl (StabL.anc rfl (StabL.anc rfl (StabL.anc rfl trivial)))))))))))))))))))))))), ?_⟩ ?_
 refine WT.pureOff 68 rfl rfl rfl rfl rfl ?_
 refine Tp (.bool true) rfl (PO.pickT rfl rfl rfl) rfl ?_
 refine Tp (.bool true) rfl (PO.move rfl) rfl ?_
 refine WT.pureOff 76 rfl rfl rfl rfl rfl ?_
 refine WT.pureOff 76 rfl rfl rfl rfl rfl ?_
 refine WT.pureOff 76 rfl rfl rfl rfl rfl ?_
 refine WT.altOff 76 rfl rfl rfl rfl rfl ⟨(StabL.st (StabA.off 76 rfl rfl rfl rfl rfl) (StabL.st (StabA.off 76 rfl rfl rfl rfl rfl) (StabL.anc rfl (StabL.anc rfl (StabL.anc rfl (StabL.anc rfl (StabL.anc rfl (StabL.anc rfl (StabL.anc rfl (StabL.anc rfl (StabL.anc rfl (StabL.anc rfl (StabL.anc rfl (StabL.anc rfl (StabL.anc rfl (StabL.anc rfl (StabL.anc rfl (StabL.anc rfl (StabL.anc rfl (StabL.anc rfl (StabL.anc rfl (StabL.anc rfl (StabL.anc rfl (StabL.anc rfl (StabL.anc rfl (StabL.anc rfl (StabL.anc rfl (StabL.anc rfl (StabL.anc rfl (StabL.anc rfl trivial)))))))))))))))))))))))))))))), ?_⟩ ?_
 refine WT.pureOff 76 rfl rfl rfl rfl rfl ?_
 refine Tp (.bool true) rfl (PO.pickT rfl rfl rfl) rfl ?_
 refine Tp (.bool true) rfl (PO.move rfl) rfl ?_
 refine WT.pureOff 83 rfl rfl rfl rfl rfl ?_
 refine WT.pureOff 83 rfl rfl rfl rfl rfl ?_
 refine WT.altOff 83 rfl rfl rfl rfl rfl ⟨(StabL.st (StabA.off 83 rfl rfl rfl rfl rfl) (StabL.anc rfl (StabL.anc rfl (StabL.anc rfl (StabL.anc rfl (StabL.anc rfl (StabL.anc rfl (StabL.anc rfl (StabL.anc rfl (StabL.anc rfl (StabL.anc rfl (StabL.anc rfl (StabL.anc rfl (StabL.anc rfl (StabL.anc rfl (StabL.anc rfl (StabL.anc rfl (StabL.anc rfl (StabL.anc rfl (StabL.anc rfl (StabL.anc rfl (StabL.anc rfl (StabL.anc rfl (StabL.anc rfl (StabL.anc rfl (StabL.anc rfl (StabL.anc rfl (StabL.anc rfl (StabL.anc rfl (StabL.anc rfl (StabL.anc rfl (StabL.anc rfl (StabL.anc rfl (StabL.anc rfl (StabL.anc rfl trivial))))))))))))))))))))))))))))))))))), ?_⟩ ?_
 refine WT.altOff 83 rfl rfl rfl rfl rfl ⟨(StabL.anc rfl (StabL.anc rfl (StabL.anc rfl (StabL.anc rfl (StabL.anc rfl (StabL.anc rfl (StabL.anc rfl (StabL.anc rfl (StabL.anc rfl (StabL.anc rfl (StabL.anc rfl (StabL.anc rfl (StabL.anc rfl (StabL.anc rfl (StabL.anc rfl (StabL.anc rfl (StabL.anc rfl (StabL.anc rfl (StabL.anc rfl (StabL.anc rfl (StabL.anc rfl (StabL.anc rfl (StabL.anc rfl (StabL.anc rfl (StabL.anc rfl (StabL.anc rfl (StabL.anc rfl (StabL.anc rfl (StabL.anc rfl (StabL.anc rfl (StabL.anc rfl (StabL.anc rfl (StabL.anc rfl (StabL.anc rfl (StabL.anc rfl trivial))))))))))))))))))))))))))))))))))), ?_⟩ ?_
 refine WT.pureOff 83 rfl rfl rfl rfl rfl ?_
 refine Tp (.bool true) rfl (PO.pickT rfl rfl rfl) rfl ?_
 refine WT.fin ?_
 obtain rfl := Option.some.inj h
 refine WQ.thenJ ?_
 exact ⟨(IM.le.refl _), rfl, hs87_0, hs87_1, hs87_5, hs87_6, hs87_7, rfl⟩
 exact WT.no
 exact WT.no
 exact WT.no
 exact WT.no
 exact WT.no
 have h := ite_f hb147 h
 refine Tn (.pointer (some ⟨g79, 1, none⟩)) 53 rfl rfl rfl hb147 (PO.fieldAddr fo52_1 hs87_8 rfl) rfl ?_
 refine Tn (.bool r72.Flag) 53 rfl rfl rfl hb147 (PO.loadB 1 pl4 rfl rfl rfl) rfl ?_
 refine Tn (.pointer (some ⟨g82, 1, none⟩)) 53 rfl rfl rfl hb147 (PO.fieldAddr fo52_1 hs87_10 rfl) rfl ?_
 refine Tn (.bool x84) 53 rfl rfl rfl hb147 (PO.loadB 4 pl4 rfl rfl rfl) rfl ?_
 refine Tn (.bool (!(r72.Flag == x84))) 53 rfl rfl rfl hb147 (PO.bneq Tryd.underlying4 rfl rfl) rfl ?_
 refine Tp (.bool (!(r72.Flag == x84))) rfl (PO.pickF rfl hb147 rfl) rfl ?_
 refine Tp (.bool (!(r72.Flag == x84))) rfl (PO.move rfl) rfl ?_
 rcases Bool.eq_false_or_eq_true (!(r72.Flag == x84)) with hb148 | hb148
 have h := ite_t hb148 h
 refine WT.pureOff 60 rfl rfl rfl hb148 rfl ?_
 refine WT.pureOff 60 rfl rfl rfl hb148 rfl ?_
 refine WT.pureOff 60 rfl rfl rfl hb148 rfl ?_
 refine WT.pureOff 60 rfl rfl rfl hb148 rfl ?_
 refine WT.altOff 60 rfl rfl rfl hb148 rfl ⟨(StabL.anc rfl (StabL.anc rfl (StabL.anc rfl (StabL.anc rfl (StabL.anc rfl (StabL.anc rfl (StabL.anc rfl (StabL.anc rfl (StabL.anc rfl (StabL.anc rfl (StabL.anc rfl (StabL.anc rfl (StabL.anc rfl (StabL.anc rfl (StabL.anc rfl (StabL.anc rfl (StabL.anc rfl trivial))))))))))))))))), ?_⟩ ?_
 refine WT.pureOff 60 rfl rfl rfl hb148 rfl ?_
 refine Tp (.bool true) rfl (PO.pickT rfl hb148 rfl) rfl ?_
 refine Tp (.bool true) rfl (PO.move rfl) rfl ?_
 refine WT.pureOff 68 rfl rfl rfl rfl rfl ?_
 refine WT.pureOff 68 rfl rfl rfl rfl rfl ?_
 refine WT.pureOff 68 rfl rfl rfl rfl rfl ?_
 refine WT.pureOff 68 rfl rfl rfl rfl rfl ?_
 refine WT.altOff 68 rfl rfl rfl rfl rfl ⟨(StabL.anc rfl (StabL.anc rfl (StabL.anc rfl (StabL.anc rfl (StabL.anc rfl (StabL.anc rfl (StabL.anc rfl (StabL.anc rfl (StabL.anc rfl (StabL.anc rfl (StabL.anc rfl (StabL.anc rfl (StabL.anc rfl (StabL.anc rfl (StabL.anc rfl (StabL.anc rfl (StabL.anc rfl (StabL.anc rfl (StabL.anc rfl (StabL.anc rfl (StabL.anc rfl (StabL.anc rfl (StabL.anc rfl (StabL.anc rfl trivial)))))))))))))))))))))))), ?_⟩ ?_
 refine WT.pureOff 68 rfl rfl rfl rfl rfl ?_
 refine Tp (.bool true) rfl (PO.pickT rfl rfl rfl) rfl ?_
 refine Tp (.bool true) rfl (PO.move rfl) rfl ?_
 refine WT.pureOff 76 rfl rfl rfl rfl rfl ?_
 refine WT.pureOff 76 rfl rfl rfl rfl rfl ?_
 refine WT.pureOff 76 rfl rfl rfl rfl rfl ?_
 refine WT.altOff 76 rfl rfl rfl rfl rfl ⟨(StabL.st (StabA.off 76 rfl rfl rfl rfl rfl) (StabL.st (StabA.off 76 rfl rfl rfl rfl rfl) (StabL.anc rfl (StabL.anc rfl (StabL.anc rfl (StabL.anc rfl (StabL.anc rfl (StabL.anc rfl (StabL.anc rfl (StabL.anc rfl (StabL.anc rfl (StabL.anc rfl (StabL.anc rfl (StabL.anc rfl (StabL.anc rfl (StabL.anc rfl (StabL.anc rfl (StabL.anc rfl (StabL.anc rfl (StabL.anc rfl (StabL.anc rfl (StabL.anc rfl (StabL.anc rfl (StabL.anc rfl (StabL.anc rfl (StabL.anc rfl (StabL.anc rfl (StabL.anc rfl (StabL.anc rfl (StabL.anc rfl trivial)))))))))))))))))))))))))))))), ?_⟩ ?_
 refine WT.pureOff 76 rfl rfl rfl rfl rfl ?_
 refine Tp (.bool true) rfl (PO.pickT rfl rfl rfl) rfl ?_
 refine Tp (.bool true) rfl (PO.move rfl) rfl ?_
 refine WT.pureOff 83 rfl rfl rfl rfl rfl ?_
 refine WT.pureOff 83 rfl rfl rfl rfl rfl ?_
 refine WT.altOff 83 rfl rfl rfl rfl rfl ⟨(StabL.st (StabA.off 83 rfl rfl rfl rfl rfl) (StabL.anc rfl (StabL.anc rfl (StabL.anc rfl (StabL.anc rfl (StabL.anc rfl (StabL.anc rfl (StabL.anc rfl (StabL.anc rfl (StabL.anc rfl (StabL.anc rfl (StabL.anc rfl (StabL.anc rfl (StabL.anc rfl (StabL.anc rfl (StabL.anc rfl (StabL.anc rfl (StabL.anc rfl (StabL.anc rfl (StabL.anc rfl (StabL.anc rfl (StabL.anc rfl (StabL.anc rfl (StabL.anc rfl (StabL.anc rfl (StabL.anc rfl (StabL.anc rfl (StabL.anc rfl (StabL.anc rfl (StabL.anc rfl (StabL.anc rfl (StabL.anc rfl (StabL.anc rfl (StabL.anc rfl (StabL.anc rfl trivial))))))))))))))))))))))))))))))))))), ?_⟩ ?_
 refine WT.altOff 83 rfl rfl rfl rfl rfl ⟨(StabL.anc rfl (StabL.anc rfl (StabL.anc rfl (StabL.anc rfl (StabL.anc rfl (StabL.anc rfl (StabL.anc rfl (StabL.anc rfl (StabL.anc rfl (StabL.anc rfl (StabL.anc rfl (StabL.anc rfl (StabL.anc rfl (StabL.anc rfl (StabL.anc rfl (StabL.anc rfl (StabL.anc rfl (StabL.anc rfl (StabL.anc rfl (StabL.anc rfl (StabL.anc rfl (StabL.anc rfl (StabL.anc rfl (StabL.anc rfl (StabL.anc rfl (StabL.anc rfl (StabL.anc rfl (StabL.anc rfl (StabL.anc rfl (StabL.anc rfl (StabL.anc rfl (StabL.anc rfl (StabL.anc rfl (StabL.anc rfl (StabL.anc rfl trivial))))))))))))))))))))))))))))))))))), ?_⟩ ?_
 refine WT.pureOff 83 rfl rfl rfl rfl rfl ?_
 refine Tp (.bool true) rfl (PO.pickT rfl rfl rfl) rfl ?_
 refine WT.fin ?_
 obtain rfl := Option.some.inj h
 refine WQ.thenJ ?_
 exact ⟨(IM.le.refl _), rfl, hs87_0, hs87_1, hs87_5, hs87_6, hs87_7, rfl⟩
 exact WT.no
 exact WT.no
 exact WT.no
 exact WT.no
 exact WT.no
 have h := ite_f hb148 h
 refine Tn (.pointer (some ⟨g79, 2, none⟩)) 60 rfl rfl rfl hb148 (PO.fieldAddr fo52_2 hs87_8 rfl) rfl ?_
 refine Tn vq78_2 60 rfl rfl rfl hb148 (PO.loadB 1 pl22 rfl rfl rfl) rfl ?_
 refine Tn (.pointer (some ⟨g82, 2, none⟩)) 60 rfl rfl rfl hb148 (PO.fieldAddr fo52_2 hs87_10 rfl) rfl ?_
 refine Tn vx85 60 rfl rfl rfl hb148 (PO.loadB 4 pl22 rfl rfl rfl) rfl ?_
 obtain ⟨r149, hr150, h⟩ := bnd h
 refine WT.f5 ?_
 refine WT.altOn 60 rfl rfl rfl hb148 (EO.call1 co18 (Tri.lend fun w0_ H0_ hs0_ => (f_ref02_Same_ok r72.Text x85 _ _ _ (hq78_2.rs hs0_) (hx85.mono (IM.le_add _ _)) r149 hr150)) (args2 rfl rfl)) rfl ?_ ?_
 rintro _ _ _ hle152 ⟨_, ⟨Ml154, Hl155, hll156, rfl, rfl, ⟨rfl, rfl⟩⟩, rfl⟩
 have h0 := h0.mono hle152
 have h1 := h1.mono hle152
 have hq78_2 := hq78_2.mono hle152
 have hx85 := hx85.mono hle152
 have hq78_3 := hq78_3.mono hle152
 have hq35_0 := hq35_0.mono hle152
 have hx86 := hx86.mono hle152
 have hE := hE.mono hle152
 refine ⟨(StabL.anc rfl (StabL.anc rfl (StabL.anc rfl (StabL.anc rfl (StabL.anc rfl (StabL.anc rfl (StabL.anc rfl (StabL.anc rfl (StabL.anc rfl (StabL.anc rfl (StabL.anc rfl (StabL.anc rfl (StabL.anc rfl (StabL.anc rfl (StabL.anc rfl (StabL.anc rfl (StabL.anc rfl trivial))))))))))))))))), ?_⟩
 refine WT.a1 ?_
 refine Tn (.bool (!r149)) 60 rfl rfl rfl hb148 (PO.not rfl) rfl ?_
 refine Tp (.bool (!r149)) rfl (PO.pickF rfl hb148 rfl) rfl ?_
 refine Tp (.bool (!r149)) rfl (PO.move rfl) rfl ?_
 rcases Bool.eq_false_or_eq_true (!r149) with hb157 | hb157
 have h := ite_t hb157 h
 refine WT.pureOff 68 rfl rfl rfl hb157 rfl ?_
 refine WT.pureOff 68 rfl rfl rfl hb157 rfl ?_
 refine WT.pureOff 68 rfl rfl rfl hb157 rfl ?_
 refine WT.pureOff 68 rfl rfl rfl hb157 rfl ?_
 refine WT.altOff 68 rfl rfl rfl hb157 rfl ⟨(StabL.anc rfl (StabL.anc rfl (StabL.anc rfl (StabL.anc rfl (StabL.anc rfl (StabL.anc rfl (StabL.anc rfl (StabL.anc rfl (StabL.anc rfl (StabL.anc rfl (StabL.anc rfl (StabL.anc rfl (StabL.anc rfl (StabL.anc rfl (StabL.anc rfl (StabL.anc rfl (StabL.anc rfl (StabL.anc rfl (StabL.anc rfl (StabL.anc rfl (StabL.anc rfl (StabL.anc rfl (StabL.anc rfl (StabL.anc rfl trivial)))))))))))))))))))))))), ?_⟩ ?_
 refine WT.pureOff 68 rfl rfl rfl hb157 rfl ?_
 refine Tp (.bool true) rfl (PO.pickT rfl hb157 rfl) rfl ?_
 refine Tp (.bool true) rfl (PO.move rfl) rfl ?_
 refine WT.pureOff 76 rfl rfl rfl rfl rfl ?_
 refine WT.pureOff 76 rfl rfl rfl rfl rfl ?_
 refine WT.pureOff 76 rfl rfl rfl rfl rfl ?_
 refine WT.altOff 76 rfl rfl rfl rfl rfl ⟨(StabL.st (StabA.off 76 rfl rfl rfl rfl rfl) (StabL.st (StabA.off 76 rfl rfl rfl rfl rfl) (StabL.anc rfl (StabL.anc rfl (StabL.anc rfl (StabL.anc rfl (StabL.anc rfl (StabL.anc rfl (StabL.anc rfl (StabL.anc rfl (StabL.anc rfl (StabL.anc rfl (StabL.anc rfl (StabL.anc rfl (StabL.anc rfl (StabL.anc rfl (StabL.anc rfl (StabL.anc rfl (StabL.anc rfl (StabL.anc rfl (StabL.anc rfl (StabL.anc rfl (StabL.anc rfl (StabL.anc rfl (StabL.anc rfl (StabL.anc rfl (StabL.anc rfl (StabL.anc rfl (StabL.anc rfl (StabL.anc rfl trivial)))))))))))))))))))))))))))))), ?_⟩ ?_
 refine WT.pureOff 76 rfl rfl rfl rfl rfl ?_
 refine Tp (.bool true) rfl (PO.pickT rfl rfl rfl) rfl ?_
 refine Tp (.bool true) rfl (PO.move rfl) rfl ?_
 refine WT.pureOff 83 rfl rfl rfl rfl rfl ?_
 refine WT.pureOff 83 rfl rfl rfl rfl rfl ?_
 refine WT.altOff 83 rfl rfl rfl rfl rfl ⟨(StabL.st (StabA.off 83 rfl rfl rfl rfl rfl) (StabL.anc rfl (StabL.anc rfl (StabL.anc rfl (StabL.anc rfl (StabL.anc rfl (StabL.anc rfl (StabL.anc rfl (StabL.anc rfl (StabL.anc rfl (StabL.anc rfl (StabL.anc rfl (StabL.anc rfl (StabL.anc rfl (StabL.anc rfl (StabL.anc rfl (StabL.anc rfl (StabL.anc rfl (StabL.anc rfl (StabL.anc rfl (StabL.anc rfl (StabL.anc rfl (StabL.anc rfl (StabL.anc rfl (StabL.anc rfl (StabL.anc rfl (StabL.anc rfl (StabL.anc rfl (StabL.anc rfl (StabL.anc rfl (StabL.anc rfl (StabL.anc rfl (StabL.anc rfl (StabL.anc rfl (StabL.anc rfl trivial))))))))))))))))))))))))))))))))))), ?_⟩ ?_
 refine WT.altOff 83 rfl rfl rfl rfl rfl ⟨(StabL.anc rfl (StabL.anc rfl (StabL.anc rfl (StabL.anc rfl (StabL.anc rfl (StabL.anc rfl (StabL.anc rfl (StabL.anc rfl (StabL.anc rfl (StabL.anc rfl (StabL.anc rfl (StabL.anc rfl (StabL.anc rfl (StabL.anc rfl (StabL.anc rfl (StabL.anc rfl (StabL.anc rfl (StabL.anc rfl (StabL.anc rfl (StabL.anc rfl (StabL.anc rfl (StabL.anc rfl (StabL.anc rfl (StabL.anc rfl (StabL.anc rfl (StabL.anc rfl (StabL.anc rfl (StabL.anc rfl (StabL.anc rfl (StabL.anc rfl (StabL.anc rfl (StabL.anc rfl (StabL.anc rfl (StabL.anc rfl (StabL.anc rfl trivial))))))))))))))))))))))))))))))))))), ?_⟩ ?_
 refine WT.pureOff 83 rfl rfl rfl rfl rfl ?_
 refine Tp (.bool true) rfl (PO.pickT rfl rfl rfl) rfl ?_
 refine WT.fin ?_
 refine WQ.f7 ?_
 refine WQ.f7 ?_
 refine WQ.f2 ?_
 refine WQ.f7 ?_
 refine WQ.f7 ?_
 refine WQ.f7 ?_
 refine WQ.f7 ?_
 refine WQ.f7 ?_
 obtain rfl := Option.some.inj h
 refine WQ.thenJ ?_
 exact ⟨hle152, rfl, hs87_0, hs87_1, hs87_5, hs87_6, hs87_7, rfl⟩
 exact WT.no
 exact WT.no
 exact WT.no
 exact WT.no
 have h := ite_f hb157 h
 refine Tn (.pointer (some ⟨g79, 3, none⟩)) 68 rfl rfl rfl hb157 (PO.fieldAddr fo52_3 hs87_8 rfl) rfl ?_
 refine Tn vq78_3 68 rfl rfl rfl hb157 (PO.loadB 2 pl24 rfl rfl rfl) rfl ?_
 refine Tn (.pointer (some ⟨g82, 3, none⟩)) 68 rfl rfl rfl hb157 (PO.fieldAddr fo52_3 hs87_10 rfl) rfl ?_
 refine Tn vx86 68 rfl rfl rfl hb157 (PO.loadB 5 pl24 rfl rfl rfl) rfl ?_
 obtain ⟨r158, hr159, h⟩ := bnd h
 refine WT.f7 ?_
 refine WT.f7 ?_
 refine WT.altOn 68 rfl rfl rfl hb157 (EO.call2 co25 (Tri.lend fun w0_ H0_ hs0_ => (Tri.lend fun w1_ H1_ hs1_ => (f_ref02_Ints_ok r72.Row x86 _ _ _ ((hq78_3.rs hs0_).mono (IM.le_add _ _)) ((hx86.mono (IM.le_add _ _)).rs hs1_) r158 hr159))) (args2 rfl rfl)) rfl ?_ ?_
 rintro _ _ _ hle161 ⟨_, ⟨Ml166, Hl167, hll168, rfl, rfl, ⟨Ml163, Hl164, hll165, rfl, rfl, ⟨rfl, rfl⟩⟩⟩, rfl⟩
 have h0 := h0.mono hle161
 have h1 := h1.mono hle161
 have hq78_2 := hq78_2.mono hle161
 have hx85 := hx85.mono hle161
 have hq78_3 := hq78_3.mono hle161
 have hx86 := hx86.mono hle161
 have hq35_0 := hq35_0.mono hle161
 have hE := hE.mono hle161
 refine ⟨(StabL.anc rfl (StabL.anc rfl (StabL.anc rfl (StabL.anc rfl (StabL.anc rfl (StabL.anc rfl (StabL.anc rfl (StabL.anc rfl (StabL.anc rfl (StabL.anc rfl (StabL.anc rfl (StabL.anc rfl (StabL.anc rfl (StabL.anc rfl (StabL.anc rfl (StabL.anc rfl (StabL.anc rfl (StabL.anc rfl (StabL.anc rfl (StabL.anc rfl (StabL.anc rfl (StabL.anc rfl (StabL.anc rfl (StabL.anc rfl trivial)))))))))))))))))))))))), ?_⟩
 refine WT.a2 ?_
 refine Tn (.bool (!r158)) 68 rfl rfl rfl hb157 (PO.not rfl) rfl ?_
 refine Tp (.bool (!r158)) rfl (PO.pickF rfl hb157 rfl) rfl ?_
 refine Tp (.bool (!r158)) rfl (PO.move rfl) rfl ?_
 rcases Bool.eq_false_or_eq_true (!r158) with hb169 | hb169
 have h := ite_t hb169 h
 refine WT.pureOff 76 rfl rfl rfl hb169 rfl ?_
 refine WT.pureOff 76 rfl rfl rfl hb169 rfl ?_
 refine WT.pureOff 76 rfl rfl rfl hb169 rfl ?_
 refine WT.altOff 76 rfl rfl rfl hb169 rfl ⟨(StabL.st (StabA.off 76 rfl rfl rfl hb169 rfl) (StabL.st (StabA.off 76 rfl rfl rfl hb169 rfl) (StabL.anc rfl (StabL.anc rfl (StabL.anc rfl (StabL.anc rfl (StabL.anc rfl (StabL.anc rfl (StabL.anc rfl (StabL.anc rfl (StabL.anc rfl (StabL.anc rfl (StabL.anc rfl (StabL.anc rfl (StabL.anc rfl (StabL.anc rfl (StabL.anc rfl (StabL.anc rfl (StabL.anc rfl (StabL.anc rfl (StabL.anc rfl (StabL.anc rfl (StabL.anc rfl (StabL.anc rfl (StabL.anc rfl (StabL.anc rfl (StabL.anc rfl (StabL.anc rfl (StabL.anc rfl (StabL.anc rfl trivial)))))))))))))))))))))))))))))), ?_⟩ ?_
 refine WT.pureOff 76 rfl rfl rfl hb169 rfl ?_
 refine Tp (.bool true) rfl (PO.pickT rfl hb169 rfl) rfl ?_
 refine Tp (.bool true) rfl (PO.move rfl) rfl ?_
 refine WT.pureOff 83 rfl rfl rfl rfl rfl ?_
 refine WT.pureOff 83 rfl rfl rfl rfl rfl ?_
 refine WT.altOff 83 rfl rfl rfl rfl rfl ⟨(StabL.st (StabA.off 83 rfl rfl rfl rfl rfl) (StabL.anc rfl (StabL.anc rfl (StabL.anc rfl (StabL.anc rfl (StabL.anc rfl (StabL.anc rfl (StabL.anc rfl (StabL.anc rfl (StabL.anc rfl (StabL.anc rfl (StabL.anc rfl (StabL.anc rfl (StabL.anc rfl (StabL.anc rfl (StabL.anc rfl (StabL.anc rfl (StabL.anc rfl (StabL.anc rfl (StabL.anc rfl (StabL.anc rfl (StabL.anc rfl (StabL.anc rfl (StabL.anc rfl (StabL.anc rfl (StabL.anc rfl (StabL.anc rfl (StabL.anc rfl (StabL.anc rfl (StabL.anc rfl (StabL.anc rfl (StabL.anc rfl (StabL.anc rfl (StabL.anc rfl (StabL.anc rfl trivial))))))))))))))))))))))))))))))))))), ?_⟩ ?_
 refine WT.altOff 83 rfl rfl rfl rfl rfl ⟨(StabL.anc rfl (StabL.anc rfl (StabL.anc rfl (StabL.anc rfl (StabL.anc rfl (StabL.anc rfl (StabL.anc rfl (StabL.anc rfl (StabL.anc rfl (StabL.anc rfl (StabL.anc rfl (StabL.anc rfl (StabL.anc rfl (StabL.anc rfl (StabL.anc rfl (StabL.anc rfl (StabL.anc rfl (StabL.anc rfl (StabL.anc rfl (StabL.anc rfl (StabL.anc rfl (StabL.anc rfl (StabL.anc rfl (StabL.anc rfl (StabL.anc rfl (StabL.anc rfl (StabL.anc rfl (StabL.anc rfl (StabL.anc rfl (StabL.anc rfl (StabL.anc rfl (StabL.anc rfl (StabL.anc rfl (StabL.anc rfl (StabL.anc rfl trivial))))))))))))))))))))))))))))))))))), ?_⟩ ?_
 refine WT.pureOff 83 rfl rfl rfl rfl rfl ?_
 refine Tp (.bool true) rfl (PO.pickT rfl rfl rfl) rfl ?_
 refine WT.fin ?_
 refine WQ.f1 ?_
 refine WQ.f1 ?_
 refine WQ.f2 ?_
 refine WQ.f7 ?_
 refine WQ.f7 ?_
 refine WQ.f7 ?_
 refine WQ.f7 ?_
 refine WQ.f7 ?_
 obtain rfl := Option.some.inj h
 refine WQ.thenJ ?_
 exact ⟨(hle152.trans hle161), rfl, hs87_0, hs87_1, hs87_5, hs87_6, hs87_7, rfl⟩
 exact WT.no
 exact WT.no
 exact WT.no
 have h := ite_f hb169 h
 refine Tn (.pointer (some ⟨g34, 0, none⟩)) 76 rfl rfl rfl hb169 (PO.move hs87_5) rfl ?_
 refine Tn (.pointer (some ⟨g36, 0, none⟩)) 76 rfl rfl rfl hb169 (PO.fieldAddr fo63_0 hs87_6 rfl) rfl ?_
 refine Tn (.int .i64 x81.At) 76 rfl rfl rfl hb169 (PO.loadB 3 pl3 rfl rfl rfl) rfl ?_
 obtain ⟨r170, hr171, h⟩ := bnd h
 refine WT.f5 ?_
 refine WT.altOn 76 rfl rfl rfl hb169 (EO.call1 co29 (f_wire_Reader_At_ok (⟨r30.b, r73, r74⟩ : T_wire_Reader) _ _ _ hq35_0 r170 hr171) (args1 rfl)) rfl ?_ ?_
 rintro _ M172 _ hle173 ⟨_, ⟨rfl, rfl⟩, rfl⟩
 have h0 := h0.mono hle173
 have h1 := h1.mono hle173
 have hq78_2 := hq78_2.mono hle173
 have hx85 := hx85.mono hle173
 have hq78_3 := hq78_3.mono hle173
 have hx86 := hx86.mono hle173
 have hq35_0 := hq35_0.mono hle173
 have hE := hE.mono hle173
 refine ⟨(StabL.st (StabA.on 76 rfl rfl rfl hb169 (PO.loadB 4 pl3 rfl rfl rfl) rfl) (StabL.st (StabA.on 76 rfl rfl rfl hb169 (PO.fieldAddr fo63_0 hs87_6 rfl) rfl) (StabL.anc rfl (StabL.anc rfl (StabL.anc rfl (StabL.anc rfl (StabL.anc rfl (StabL.anc rfl (StabL.anc rfl (StabL.anc rfl (StabL.anc rfl (StabL.anc rfl (StabL.anc rfl (StabL.anc rfl (StabL.anc rfl (StabL.anc rfl (StabL.anc rfl (StabL.anc rfl (StabL.anc rfl (StabL.anc rfl (StabL.anc rfl (StabL.anc rfl (StabL.anc rfl (StabL.anc rfl (StabL.anc rfl (StabL.anc rfl (StabL.anc rfl (StabL.anc rfl (StabL.anc rfl (StabL.anc rfl trivial)))))))))))))))))))))))))))))), ?_⟩
 refine WT.a1 ?_
 refine Tn (.bool (decide (r170 ≠ x81.At))) 76 rfl rfl rfl hb169 (PO.neq rfl rfl) rfl ?_
 refine Tp (.bool (decide (r170 ≠ x81.At))) rfl (PO.pickF rfl hb169 rfl) rfl ?_
 refine Tp (.bool (decide (r170 ≠ x81.At))) rfl (PO.move rfl) rfl ?_
 rcases Bool.eq_false_or_eq_true (decide (r170 ≠ x81.At)) with hb175 | hb175
 have h := ite_t hb175 h
 refine WT.pureOff 83 rfl rfl rfl hb175 rfl ?_
 refine WT.pureOff 83 rfl rfl rfl hb175 rfl ?_
 refine WT.altOff 83 rfl rfl rfl hb175 rfl ⟨(StabL.st (StabA.off 83 rfl rfl rfl hb175 rfl) (StabL.anc rfl (StabL.anc rfl (StabL.anc rfl (StabL.anc rfl (StabL.anc rfl (StabL.anc rfl (StabL.anc rfl (StabL.anc rfl (StabL.anc rfl (StabL.anc rfl (StabL.anc rfl (StabL.anc rfl (StabL.anc rfl (StabL.anc rfl (StabL.anc rfl (StabL.anc rfl (StabL.anc rfl (StabL.anc rfl (StabL.anc rfl (StabL.anc rfl (StabL.anc rfl (StabL.anc rfl (StabL.anc rfl (StabL.anc rfl (StabL.anc rfl (StabL.anc rfl (StabL.anc rfl (StabL.anc rfl (StabL.anc rfl (StabL.anc rfl (StabL.anc rfl (StabL.anc rfl (StabL.anc rfl (StabL.anc rfl trivial))))))))))))))))))))))))))))))))))), ?_⟩ ?_
 refine WT.altOff 83 rfl rfl rfl hb175 rfl ⟨(StabL.anc rfl (StabL.anc rfl (StabL.anc rfl (StabL.anc rfl (StabL.anc rfl (StabL.anc rfl (StabL.anc rfl (StabL.anc rfl (StabL.anc rfl (StabL.anc rfl (StabL.anc rfl (StabL.anc rfl (StabL.anc rfl (StabL.anc rfl (StabL.anc rfl (StabL.anc rfl (StabL.anc rfl (StabL.anc rfl (StabL.anc rfl (StabL.anc rfl (StabL.anc rfl (StabL.anc rfl (StabL.anc rfl (StabL.anc rfl (StabL.anc rfl (StabL.anc rfl (StabL.anc rfl (StabL.anc rfl (StabL.anc rfl (StabL.anc rfl (StabL.anc rfl (StabL.anc rfl (StabL.anc rfl (StabL.anc rfl (StabL.anc rfl trivial))))))))))))))))))))))))))))))))))), ?_⟩ ?_
 refine WT.pureOff 83 rfl rfl rfl hb175 rfl ?_
 refine Tp (.bool true) rfl (PO.pickT rfl hb175 rfl) rfl ?_
 refine WT.fin ?_
 refine WQ.f2 ?_
 refine WQ.f2 ?_
 refine WQ.f3 ?_
 refine WQ.f7 ?_
 refine WQ.f7 ?_
 refine WQ.f5 ?_
 refine WQ.f7 ?_
 refine WQ.f7 ?_
 obtain rfl := Option.some.inj h
 refine WQ.thenJ ?_
 exact ⟨((hle152.trans hle161).trans hle173), rfl, hs87_0, hs87_1, hs87_5, hs87_6, hs87_7, rfl⟩
 exact WT.no
 exact WT.no
 have h := ite_f hb175 h
 refine Tn (.pointer (some ⟨g34, 0, none⟩)) 83 rfl rfl rfl hb175 (PO.move hs87_5) rfl ?_
 refine Tn (.agg #[(.int .i64 x81.At), (.int .i64 x81.Code), (.string x81.Op), (.int .i64 x81.Where)]) 83 rfl rfl rfl hb175 (PO.loadBA (cs := [(.int .i64 x81.At), (.int .i64 x81.Code), (.string x81.Op), (.int .i64 x81.Where)]) 4 ag63 sz63 hs87_6 rfl rfl) rfl ?_
 obtain ⟨r176, hr177, h⟩ := bnd h
 refine WT.altOn 83 rfl rfl rfl hb175 (EO.call1 co28 (f_wire_Reader_Err_ok (⟨r30.b, r73, r74⟩ : T_wire_Reader) _ _ _ hq35_0 r176 hr177) (args1 rfl)) rfl ?_ ?_
 rintro _ M178 _ hle179 ⟨_, ⟨rfl, rfl⟩, rfl⟩
 have h0 := h0.mono hle179
 have h1 := h1.mono hle179
 have hq78_2 := hq78_2.mono hle179
 have hx85 := hx85.mono hle179
 have hq78_3 := hq78_3.mono hle179
 have hx86 := hx86.mono hle179
 have hq35_0 := hq35_0.mono hle179
 have hE := hE.mono hle179
 refine ⟨(StabL.st (StabA.on 83 rfl rfl rfl hb175 (PO.loadBA (cs := [(.int .i64 x81.At), (.int .i64 x81.Code), (.string x81.Op), (.int .i64 x81.Where)]) 4 ag63 sz63 hs87_6 rfl rfl) rfl) (StabL.anc rfl (StabL.anc rfl (StabL.anc rfl (StabL.anc rfl (StabL.anc rfl (StabL.anc rfl (StabL.anc rfl (StabL.anc rfl (StabL.anc rfl (StabL.anc rfl (StabL.anc rfl (StabL.anc rfl (StabL.anc rfl (StabL.anc rfl (StabL.anc rfl (StabL.anc rfl (StabL.anc rfl (StabL.anc rfl (StabL.anc rfl (StabL.anc rfl (StabL.anc rfl (StabL.anc rfl (StabL.anc rfl (StabL.anc rfl (StabL.anc rfl (StabL.anc rfl (StabL.anc rfl (StabL.anc rfl (StabL.anc rfl (StabL.anc rfl (StabL.anc rfl (StabL.anc rfl (StabL.anc rfl (StabL.anc rfl trivial))))))))))))))))))))))))))))))))))), ?_⟩
 refine WT.a1 ?_
 obtain ⟨r181, hr182, h⟩ := bnd h
 refine WT.altOn 83 rfl rfl rfl hb175 (EO.call0 co35 (f_law02_wrong_ok r176 x81 _ hE r181 hr182) (args2 rfl rfl)) rfl ?_ ?_
 rintro _ M183 _ hle184 ⟨_, ⟨rfl, rfl⟩, rfl⟩
 have h0 := h0.mono hle184
 have h1 := h1.mono hle184
 have hq78_2 := hq78_2.mono hle184
 have hx85 := hx85.mono hle184
 have hq78_3 := hq78_3.mono hle184
 have hx86 := hx86.mono hle184
 have hq35_0 := hq35_0.mono hle184
 have hE := hE.mono hle184
 refine ⟨(StabL.anc rfl (StabL.anc rfl (StabL.anc rfl (StabL.anc rfl (StabL.anc rfl (StabL.anc rfl (StabL.anc rfl (StabL.anc rfl (StabL.anc rfl (StabL.anc rfl (StabL.anc rfl (StabL.anc rfl (StabL.anc rfl (StabL.anc rfl (StabL.anc rfl (StabL.anc rfl (StabL.anc rfl (StabL.anc rfl (StabL.anc rfl (StabL.anc rfl (StabL.anc rfl (StabL.anc rfl (StabL.anc rfl (StabL.anc rfl (StabL.anc rfl (StabL.anc rfl (StabL.anc rfl (StabL.anc rfl (StabL.anc rfl (StabL.anc rfl (StabL.anc rfl (StabL.anc rfl (StabL.anc rfl (StabL.anc rfl (StabL.anc rfl trivial))))))))))))))))))))))))))))))))))), ?_⟩
 refine WT.a0 ?_
 refine Tn (.bool (!r181)) 83 rfl rfl rfl hb175 (PO.not rfl) rfl ?_
 refine Tp (.bool (!r181)) rfl (PO.pickF rfl hb175 rfl) rfl ?_
 refine WT.fin ?_
 refine WQ.f2 ?_
 refine WQ.f2 ?_
 refine WQ.f3 ?_
 refine WQ.f7 ?_
 refine WQ.f7 ?_
 refine WQ.f5 ?_
 refine WQ.f7 ?_
 refine WQ.f7 ?_
 obtain rfl := Option.some.inj h
 refine WQ.thenJ ?_
 exact ⟨((((hle152.trans hle161).trans hle173).trans hle179).trans hle184), rfl, hs87_0, hs87_1, hs87_5, hs87_6, hs87_7, rfl⟩
 exact WT.no
 exact WT.no
 exact WT.no
 exact WT.no
 exact WT.no
 rintro ρ146 M146 H146 ⟨hle146, rfl, hs146_0, hs146_1, hs146_5, hs146_6, hs146_7, hs146_89⟩
 have h0 := h0.mono hle146
 have h1 := h1.mono hle146
 have hq78_2 := hq78_2.mono hle146
 have hq78_3 := hq78_3.mono hle146
 have hq35_0 := hq35_0.mono hle146
 have hx85 := hx85.mono hle146
 have hx86 := hx86.mono hle146
 have hE := hE.mono hle146
 refine WC.cond (b := x145) hs146_89 (fun hb186 => ?_) (fun hb186 => ?_)
 have h := ite_t hb186 h
 refine Sr ?_
 refine Pa (.bool false) rfl rfl ?_
 refine Nt ?_
 refine WC.ret ?_
 refine WQ.blockR ?_
 refine WQ.thenR ?_
 refine WQ.leaveR (Sum.inr (x81.At, x81.Code, x81.Op, x81.Where, r73, r74)) (Option.some.inj h).symm (fun heq44 => ?_)
 subst heq44
 have h := (elimR hK44)
 refine WQ.blockR ?_
 refine WQ.thenR ?_
 have h := KK.early h h343
 refine WQ.drop ?_
 refine WQ.drop ?_
 refine WQ.drop ?_
 refine WQ.drop ?_
 refine WQ.drop ?_
 refine WQ.drop ?_
 refine WQ.drop ?_
 refine WQ.drop ?_
 exact WQ.returnsF h [] rfl (results1 rfl rfl) (((((hle22.trans hle33).trans hle44).trans hle77).trans hle87).trans hle146) ⟨rfl, rfl⟩
 have h := ite_f hb186 h
 refine WC.skip ?_
 refine WQ.blockN ?_
 refine WQ.thenC ?_
 refine WC.region ?_
 refine Pm (.int .i64 x45) hs146_7 rfl ?_
 refine Pu (.int .i64 (IntKind.i64.wrap (x45 + (1 : Int)))) (PO.add rfl rfl) rfl ?_
 refine Pa (.int .i64 (IntKind.i64.wrap (x45 + (1 : Int)))) rfl rfl ?_
 refine WL.nil ?_
 refine WQ.f1 ?_
 refine WQ.drop ?_
 refine WQ.f2 ?_
 refine WQ.drop ?_
 refine WQ.f2 ?_
 refine WQ.drop ?_
 refine WQ.f2 ?_
 refine WQ.drop ?_
 refine WQ.f2 ?_
 refine WQ.drop ?_
 refine WQ.f2 ?_
 refine WQ.drop ?_
 refine WQ.again (IntKind.i64.wrap (x45 + (1 : Int)), r73, r74, x81.At, x81.Code, x81.Op, x81.Where) (Option.some.inj h).symm ?_
 exact ⟨(((hle44.trans hle77).trans hle87).trans hle146), rfl, hs146_0, hs146_1, hs146_5, hs146_6, rfl⟩
 have h := ite_f hb64 h
 refine WC.exit ?_
 refine WQ.thenE ?_
 refine WQ.leaveE (Sum.inl (x48, x49, x50, x51, x46, x47)) (Option.some.inj h).symm (fun heq44 => ?_)
 subst heq44
 have h := elimL hK44
 refine WQ.blockH ?_
 refine WQ.thenFE h ?_
 exact ⟨hle44, rfl, hs44_0, hs44_5, hs44_6⟩
 rintro ⟨x37, x38, x39, x40, x41, x42⟩ ρ43 M43 H43 rfl ⟨hle43, rfl, hs43_0, hs43_5, hs43_6⟩
 have h0 := h0.mono hle43
 have hq35_0 := hq35_0.mono hle43
 have hE := hE.mono hle43
 obtain ⟨j189, hj189, h⟩ := bnd h
 refine WC.joinF (fun (p_ : (Bool × GErr)) ρ' M' H' => match p_ with | (x187, x188) => M43.le M' ∧ [(g36, .cells #[(.int .i64 x37), (.int .i64 x38), (.string x39), (.int .i64 x40)] 63 (0, 0))] :: [(g34, .cells #[vq35_0, (.int .i64 x41), (GV x188)] 73 (0, 0))] :: F = H' ∧ ρ' 4 = (.bool x187)) j189 ?_ ?_
 have h3189 := h
 have h := hj189
 refine WC.draw [0, 1, 0, 0, 15, 31, 63, 127, 255, 511] (.pure 0 (.pure 2 (.pure 3 (.alt 1 (.alt 4 (.alt 5 (.pure 6 (.alt 7 (.pure 8 (.pure 9 .done)) .none)) .none) .none) .none)))) mixed (by kernel_rfl) ?_
 refine Tp (.pointer (some ⟨g34, 0, none⟩)) rfl (PO.move hs43_5) rfl ?_
 refine Tp v0 rfl (PO.move hs43_0) rfl ?_
 refine Tp (.agg #[(.int .i64 x37), (.int .i64 x38), (.string x39), (.int .i64 x40)]) rfl (PO.loadBA (cs := [(.int .i64 x37), (.int .i64 x38), (.string x39), (.int .i64 x40)]) 0 ag63 sz63 hs43_6 rfl rfl) rfl ?_
 obtain ⟨⟨r190, r191⟩, hr192, h⟩ := bnd h
 refine WT.f1 ?_
 refine WT.alt rfl (EO.call1 co27 (f_wire_Reader_End_ok (⟨r30.b, x41, x42⟩ : T_wire_Reader) _ _ _ hq35_0 (r190, r191) hr192) (args1 rfl)) rfl ?_ ?_
 rintro _ M193 _ hle194 ⟨_, ⟨rfl, rfl⟩, rfl⟩
 have h0 := h0.mono hle194
 have hq35_0 := hq35_0.mono hle194
 have hE := hE.mono hle194
 refine ⟨(StabL.st (StabA.of rfl (PO.loadBA (cs := [(.int .i64 x37), (.int .i64 x38), (.string x39), (.int .i64 x40)]) 1 ag63 sz63 hs43_6 rfl rfl) rfl) (StabL.st (StabA.of rfl (PO.move hs43_0) rfl) (StabL.anc rfl trivial))), ?_⟩
 refine WT.a1 ?_
 obtain ⟨r196, hr197, h⟩ := bnd h
 refine WT.alt rfl (EO.call0 co36 (f_ref02_End_ok a0 (⟨x37, x38, x39, x40⟩ : T_ref02_State) _ _ h0 r196 hr197) (args2 rfl rfl)) rfl ?_ ?_
 rintro _ M198 _ hle199 ⟨_, ⟨rfl, rfl⟩, rfl⟩
 have h0 := h0.mono hle199
 have hq35_0 := hq35_0.mono hle199
 have hE := hE.mono hle199
 refine ⟨(StabL.anc rfl (StabL.anc rfl (StabL.anc rfl trivial))), ?_⟩
 refine WT.a0 ?_
 obtain ⟨r201, hr202, h⟩ := bnd h
 refine WT.alt rfl (EO.call0 co35 (f_law02_wrong_ok r190 r196 _ hE r201 hr202) (args2 rfl rfl)) rfl ?_ ?_
 rintro _ M203 _ hle204 ⟨_, ⟨rfl, rfl⟩, rfl⟩
 have h0 := h0.mono hle204
 have hq35_0 := hq35_0.mono hle204
 have hE := hE.mono hle204
 refine ⟨(StabL.anc rfl (StabL.anc rfl (StabL.anc rfl trivial))), ?_⟩
 refine WT.a0 ?_
 refine Tp (.bool r201) rfl (PO.move rfl) rfl ?_
 rcases Bool.eq_false_or_eq_true (r201) with hb206 | hb206
 have h := ite_t hb206 h
 obtain ⟨r207, hr208, h⟩ := bnd h
 refine WT.altOn 96 rfl rfl rfl hb206 (EO.call0 co8 (f_law02_works_ok _ hE r207 hr208) (args0)) rfl ?_ ?_
 rintro _ M209 _ hle210 ⟨_, ⟨rfl, rfl⟩, rfl⟩
 have h0 := h0.mono hle210
 have hq35_0 := hq35_0.mono hle210
 have hE := hE.mono hle210
 refine ⟨(StabL.anc rfl (StabL.anc rfl (StabL.anc rfl (StabL.anc rfl trivial)))), ?_⟩
 refine WT.a0 ?_
 refine Tp (.bool r207) rfl (PO.pickT rfl hb206 rfl) rfl ?_
 refine Tp (.bool r207) rfl (PO.assign rfl) rfl ?_
 refine WT.fin ?_
 refine WQ.f1 ?_
 obtain rfl := Option.some.inj h
 refine WQ.thenJ ?_
 exact ⟨(((hle194.trans hle199).trans hle204).trans hle210), rfl, rfl⟩
 exact WT.no
 have h := ite_f hb206 h
 refine WT.altOff 96 rfl rfl rfl hb206 rfl ⟨(StabL.anc rfl (StabL.anc rfl (StabL.anc rfl (StabL.anc rfl trivial)))), ?_⟩ ?_
 refine Tp (.bool false) rfl (PO.pickF rfl hb206 rfl) rfl ?_
 refine Tp (.bool false) rfl (PO.assign rfl) rfl ?_
 refine WT.fin ?_
 refine WQ.f1 ?_
 obtain rfl := Option.some.inj h
 refine WQ.thenJ ?_
 exact ⟨((hle194.trans hle199).trans hle204), rfl, rfl⟩
 exact WT.no
 exact WT.no
 exact WT.no
 exact WT.no
 obtain ⟨x187, x188⟩ := j189
 rintro ρ189 M189 H189 ⟨hle189, rfl, hs189_4⟩
 have hq35_0 := hq35_0.mono hle189
 have hE := hE.mono hle189
 refine WC.ret ?_
 refine WQ.drop ?_
 refine WQ.drop ?_
 exact WQ.returnsF h [] rfl (results1 rfl hs189_4) (((hle22.trans hle33).trans hle43).trans hle189) ⟨rfl, rfl⟩


end Go.Proofs.YtdlilclopmhiaaaDoor.G
