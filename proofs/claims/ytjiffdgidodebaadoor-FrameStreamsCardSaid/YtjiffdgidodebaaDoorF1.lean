/- Go functions: what they come to, and that they do. Printed by a program of the session (gen). -/
import Derived.Test.YtjiffdgidodebaaDoorFF
import Derived.Test.YtjiffdgidodebaaDoorF0
import Derived.Test.YtjiffdgidodebaaDoorKShar
set_option linter.unusedVariables false
set_option linter.unusedSimpArgs false
set_option maxHeartbeats 8000000
set_option maxRecDepth 100000
namespace Go.Proofs.YtjiffdgidodebaaDoor.G
open Go Go.KK

noncomputable def f_frame_Put (a0 : T_api_Frame) : Option ((List Int) × GErr) :=
  (((if (decide (a0.Kind < (0 : Int))) = true then (some true) else (some (decide ((63 : Int) < a0.Kind)))) : Option Bool).bind fun (x22 : Bool) => (if x22 = true then ((f_fault_New (⟨#[107, 105, 110, 100]⟩ : ByteArray) a0.Kind (5 : Int)).bind fun (r26 : GErr) => (some ([], r26))) else (if (decide ((16384 : Int) < (a0.Body.length : Int))) = true then ((f_fault_New (⟨#[98, 111, 100, 121]⟩ : ByteArray) (a0.Body.length : Int) (6 : Int)).bind fun (r33 : GErr) => (some ([], r33))) else ((f_wire_Text [(197 : Int), IntKind.u8.wrap a0.Kind] a0.Body).bind fun (r42 : (List Int)) => ((f_crc_Put r42).bind fun (r47 : (List Int)) => (some (r47, GErr.nil)))))))
def f_frame_Put_post (a0 : T_api_Frame) (v0_1 : Value) : ((List Int) × GErr) → Value → IM → HL → Prop :=
  fun (p_ : ((List Int) × GErr)) (v : Value) (M' : IM) (H' : HL) => match p_ with | (r0, r1) => ∃ vz0 cz0, (.tuple #[vz0, (GV r1)]) = v ∧ H' = [cz0] ∧ OwnS (Kd.int .u8) M' vz0 r0 cz0
theorem f_frame_Put_ok (a0 : T_api_Frame) (M : IM) (v0_1 : Value) (h0_1 : RS (Kd.int .u8) M v0_1 a0.Body) (res : ((List Int) × GErr)) (h : f_frame_Put a0 = some res) :
    Tri Tryd.prog 17 #[(.agg #[(.int .i64 a0.Kind), v0_1])] M [] (f_frame_Put_post a0 v0_1 res) := by
 unfold f_frame_Put at h
 refine Tri.enter (fn := Tryd.f17) Tryd.func17 rfl (Nat.le_of_ble_eq_true rfl) ?_
 intro F ρ hρ
 refine Sr ?_
 refine WL.eff (EO.box (cs := #[(.int .i64 a0.Kind), v0_1]) (congrArg Value.cells (asE (.agg #[(.int .i64 a0.Kind), v0_1]) (hρ 0)))) rfl ?_
 rintro _ _ _ - ⟨rfl, g21, rfl, rfl⟩
 refine Pa (.slice none 0 0) rfl rfl ?_
 refine Pa (GV GErr.nil) rfl rfl ?_
 refine Nt ?_
 refine WC.seq ?_
 refine WC.block ?_
 obtain ⟨x22, hj23, h⟩ := bnd h
 refine WC.joinF (fun (x22 : Bool) ρ' M' H' => M.le M' ∧ [(g21, .cells #[(.int .i64 a0.Kind), v0_1] 40 (0, 0))] :: F = H' ∧ ρ' 1 = (pt g21 0) ∧ ρ' 4 = (.bool x22)) x22 ?_ ?_
 have h323 := h
 have h := hj23
 refine WC.region ?_
 refine Pu (pt g21 0) (PO.fieldAddr fo40_0 rfl rfl) rfl ?_
 refine Pu (.int .i64 a0.Kind) (PO.loadB 0 pl3 rfl rfl rfl) rfl ?_
 refine Pu (.bool (decide (a0.Kind < 0))) (PO.lss rfl rfl) rfl ?_
 refine Pm (.bool (decide (a0.Kind < 0))) rfl rfl ?_
 rcases Bool.eq_false_or_eq_true (decide (a0.Kind < 0)) with hb24 | hb24
 have h := ite_t hb24 h
 iterate 3 refine Of 8 rfl rfl hb24 rfl ?_
 refine Pu (.bool true) (PO.pickT rfl hb24 rfl) rfl ?_
 refine Pa (.bool true) rfl rfl ?_
 refine WL.nil ?_
 obtain rfl := Option.some.inj h
 refine WQ.thenJ ?_
 exact ⟨(IM.le.refl _), rfl, rfl, rfl⟩
 have h := ite_f hb24 h
 refine On 8 rfl rfl hb24 ?_
 refine Pu (pt g21 0) (PO.fieldAddr fo40_0 rfl rfl) rfl ?_
 refine On 8 rfl rfl hb24 ?_
 refine Pu (.int .i64 a0.Kind) (PO.loadB 0 pl3 rfl rfl rfl) rfl ?_
 refine On 8 rfl rfl hb24 ?_
 refine Pu (.bool (decide ((63 : Int) < a0.Kind))) (PO.gtr rfl rfl) rfl ?_
 refine Pu (.bool (decide ((63 : Int) < a0.Kind))) (PO.pickF rfl hb24 rfl) rfl ?_
 refine Pa (.bool (decide ((63 : Int) < a0.Kind))) rfl rfl ?_
 refine WL.nil ?_
 obtain rfl := Option.some.inj h
 refine WQ.thenJ ?_
 exact ⟨(IM.le.refl _), rfl, rfl, rfl⟩
 rintro ρ23 M23 H23 ⟨hle23, rfl, hs23_1, hs23_4⟩
 have h0_1 := h0_1.mono hle23
 refine WC.cond (b := x22) hs23_4 (fun hb25 => ?_) (fun hb25 => ?_)
 have h := ite_t hb25 h
 refine Sr ?_
 refine Pu (pt g21 0) (PO.fieldAddr fo40_0 hs23_1 rfl) rfl ?_
 refine Pu (.int .i64 a0.Kind) (PO.loadB 0 pl3 rfl rfl rfl) rfl ?_
 obtain ⟨r26, hr27, h⟩ := bnd h
 refine WL.eff (EO.call0 co37 (f_fault_New_ok (⟨#[107, 105, 110, 100]⟩ : ByteArray) a0.Kind (5 : Int) _ r26 hr27) (args3 rfl rfl rfl)) rfl ?_
 rintro _ M28 _ hle29 ⟨_, ⟨rfl, rfl⟩, rfl⟩
 have h0_1 := h0_1.mono hle29
 refine WL.a0 ?_
 refine Pa (.slice none 0 0) rfl rfl ?_
 refine Pa (GV r26) rfl rfl ?_
 refine Nt ?_
 refine WC.ret ?_
 refine WQ.blockR ?_
 refine WQ.thenR ?_
 refine WQ.e0 ?_
 refine WQ.f1 ?_
 refine WQ.drop ?_
 exact WQ.returnsF h [[]] rfl (results2 rfl rfl rfl) (hle23.trans hle29) ⟨(.slice none 0 0), [], rfl, rfl, (OwnS.nil _ _)⟩
 have h := ite_f hb25 h
 refine Sr ?_
 refine Pu (pt g21 1) (PO.fieldAddr fo40_1 hs23_1 rfl) rfl ?_
 refine Pu v0_1 (PO.loadB 0 pl26 rfl rfl rfl) rfl ?_
 refine Pu (.int .i64 (a0.Body.length : Int)) (PO.lenS Tryd.underlying26 rfl h0_1.len) rfl ?_
 refine Pu (.bool (decide ((16384 : Int) < (a0.Body.length : Int)))) (PO.gtr rfl rfl) rfl ?_
 refine Pa (.bool (decide ((16384 : Int) < (a0.Body.length : Int)))) rfl rfl ?_
 refine Nt ?_
 refine WC.cond (b := decide ((16384 : Int) < (a0.Body.length : Int))) rfl (fun hb32 => ?_) (fun hb32 => ?_)
 have h := ite_t hb32 h
 refine Sr ?_
 refine Pu (pt g21 1) (PO.fieldAddr fo40_1 hs23_1 rfl) rfl ?_
 refine Pu v0_1 (PO.loadB 0 pl26 rfl rfl rfl) rfl ?_
 refine Pu (.int .i64 (a0.Body.length : Int)) (PO.lenS Tryd.underlying26 rfl h0_1.len) rfl ?_
 obtain ⟨r33, hr34, h⟩ := bnd h
 refine WL.eff (EO.call0 co37 (f_fault_New_ok (⟨#[98, 111, 100, 121]⟩ : ByteArray) (a0.Body.length : Int) (6 : Int) _ r33 hr34) (args3 rfl rfl rfl)) rfl ?_
 rintro _ M35 _ hle36 ⟨_, ⟨rfl, rfl⟩, rfl⟩
 have h0_1 := h0_1.mono hle36
 refine WL.a0 ?_
 refine Pa (.slice none 0 0) rfl rfl ?_
 refine Pa (GV r33) rfl rfl ?_
 refine Nt ?_
 refine WC.ret ?_
 refine WQ.blockR ?_
 refine WQ.thenR ?_
 refine WQ.e0 ?_
 refine WQ.f1 ?_
 refine WQ.drop ?_
 exact WQ.returnsF h [[]] rfl (results2 rfl rfl rfl) (hle23.trans hle36) ⟨(.slice none 0 0), [], rfl, rfl, (OwnS.nil _ _)⟩
 have h := ite_f hb32 h
 refine WC.skip ?_
 refine WQ.blockN ?_
 refine WQ.thenC ?_
 refine Sr ?_
 refine Pu (pt g21 0) (PO.fieldAddr fo40_0 hs23_1 rfl) rfl ?_
 refine Pu (.int .i64 a0.Kind) (PO.loadB 0 pl3 rfl rfl rfl) rfl ?_
 refine Pu (.int .u8 (IntKind.u8.wrap a0.Kind)) (PO.conv us3 Tryd.underlying5 rfl) rfl ?_
 refine WL.eff (EO.buildSliceL (cl := [(.int .u8 197), (.int .u8 (IntKind.u8.wrap a0.Kind))]) Tryd.underlying26 iz5 rfl (Parts.cons (congrArg Value.cells (show ev _ _ = (.int .u8 197) from rfl)) (Parts.cons (congrArg Value.cells (show ev _ _ = (.int .u8 (IntKind.u8.wrap a0.Kind)) from rfl)) Parts.nil)) rfl) rfl ?_
 rintro _ _ _ - ⟨rfl, g39, rfl, rfl⟩
 have h41 : OwnS (Kd.int .u8) M23 (.slice (some ⟨g39, 0, none⟩) 2 2) [(197 : Int), IntKind.u8.wrap a0.Kind] [(g39, .cells #[(.int .u8 197), (.int .u8 (IntKind.u8.wrap a0.Kind))] 5 (0, 0))] := OwnS.rows (css := [[(.int .u8 197)], [(.int .u8 (IntKind.u8.wrap a0.Kind))]]) (Rows.cons rfl (Rows.cons rfl Rows.nil)) rfl rfl
 refine Pu (pt g21 1) (PO.fieldAddr fo40_1 hs23_1 rfl) rfl ?_
 refine Pu v0_1 (PO.loadB 1 pl26 rfl rfl rfl) rfl ?_
 obtain ⟨r42, hr43, h⟩ := bnd h
 refine WL.eff (EO.call1 co39 (f_wire_Text_ok [(197 : Int), IntKind.u8.wrap a0.Kind] a0.Body _ _ _ _ h41 h0_1 r42 hr43) (args2 rfl rfl)) rfl ?_
 rintro _ M44 _ hle45 ⟨_, ⟨vq46, cq46, rfl, rfl, hq46⟩, rfl⟩
 have h41 := h41.mono hle45
 have h0_1 := h0_1.mono hle45
 refine WL.a1 ?_
 obtain ⟨r47, hr48, h⟩ := bnd h
 refine WL.eff (EO.call1 co38 (Tri.lend hq46.excl fun w0_ H0_ hs0_ => (f_crc_Put_ok r42 _ _ (hq46.rs hs0_) r47 hr48)) (args1 rfl)) rfl ?_
 rintro _ _ _ hle50 ⟨_, ⟨Ml52, Hl53, hll54, rfl, rfl, ⟨vq51, cq51, rfl, rfl, hq51⟩⟩, rfl⟩
 have h41 := h41.mono hle50
 have h0_1 := h0_1.mono hle50
 have hq46 := hq46.mono hle50
 have hq51 : OwnS (Kd.int .u8) (Ml52.minus cq46) vq51 r47 cq51 := hq51.any (Kd.int_flat _)
 refine WL.a2 ?_
 refine Pa vq51 rfl rfl ?_
 refine Pa (GV GErr.nil) rfl rfl ?_
 refine Nt ?_
 refine WC.ret ?_
 refine WQ.drop ?_
 refine WQ.f1 ?_
 refine WQ.drop ?_
 exact WQ.returnsF h [cq51] rfl (results2 rfl rfl rfl) ((hle23.trans hle45).trans hle50) ⟨vq51, cq51, rfl, rfl, hq51⟩

noncomputable def f_fault_Wrap (a0 : ByteArray) (a1 : Int) (a2 : GErr) : Option GErr :=
  (if a2.isNil = true then (some GErr.nil) else (some (GErr.fault a0 a1 a2)))
def f_fault_Wrap_post (a0 : ByteArray) (a1 : Int) (a2 : GErr) : GErr → Value → IM → HL → Prop :=
  fun (r0 : GErr) (v : Value) (M' : IM) (H' : HL) => (GV r0) = v ∧ H' = []
theorem f_fault_Wrap_ok (a0 : ByteArray) (a1 : Int) (a2 : GErr) (M : IM) (res : GErr) (h : f_fault_Wrap a0 a1 a2 = some res) :
    Tri Tryd.prog 36 #[(.string a0), (.int .i64 a1), (GV a2)] M [] (f_fault_Wrap_post a0 a1 a2 res) := by
 unfold f_fault_Wrap at h
 refine Tri.enter (fn := Tryd.f36) Tryd.func36 rfl (Nat.le_of_ble_eq_true rfl) ?_
 intro F ρ hρ
 refine Sr ?_
 refine Pa (GV GErr.nil) rfl rfl ?_
 refine Nt ?_
 refine WC.seq ?_
 refine Sr ?_
 refine Pm (GV a2) (hρ 2) rfl ?_
 refine Pu (.bool a2.isNil) (PO.errNil Tryd.underlying28 rfl) rfl ?_
 refine Nt ?_
 refine WC.cond (b := a2.isNil) rfl (fun hb21 => ?_) (fun hb21 => ?_)
 have h := ite_t hb21 h
 refine Sr ?_
 refine Pa (GV GErr.nil) rfl rfl ?_
 refine Nt ?_
 refine WC.ret ?_
 refine WQ.thenR ?_
 exact WQ.returnsF h [] rfl (results1 rfl rfl) (IM.le.refl _) ⟨rfl, rfl⟩
 have h := ite_f hb21 h
 refine WC.skip ?_
 refine WQ.thenC ?_
 refine Sr ?_
 refine Pm (.string a0) (hρ 0) rfl ?_
 refine Pm (.int .i64 a1) (hρ 1) rfl ?_
 refine Pm (GV a2) (hρ 2) rfl ?_
 refine Pu (.agg #[(.string a0), (.int .i64 a1), (GV a2)]) (PO.buildL (cl := [(.string a0), (.int .i64 a1), (GV a2)]) ze89 fp89 (Parts.cons (congrArg Value.cells (show ev _ _ = (.string a0) from rfl)) (Parts.cons (congrArg Value.cells (show ev _ _ = (.int .i64 a1) from rfl)) (Parts.cons ((congrArg Value.cells (show ev _ _ = (GV a2) from rfl)).trans (GErr.val_cells _ _ _ _)) Parts.nil))) rfl) rfl ?_
 refine Pu (GV (GErr.fault a0 a1 a2)) (PO.makeInterface cc89 rfl) rfl ?_
 refine Pa (GV (GErr.fault a0 a1 a2)) rfl rfl ?_
 refine Nt ?_
 refine WC.ret ?_
 exact WQ.returnsF h [] rfl (results1 rfl rfl) (IM.le.refl _) ⟨rfl, rfl⟩

noncomputable def f_frame_All_l0 (a0 : (List T_api_Frame)) (s_ : ((List Int) × Int)) : Option (((List Int) × Int) ⊕ ((List Int) ⊕ ((List Int) × GErr))) :=
  match s_ with
  | (x24, x25) =>
    (if (decide (x25 < (a0.length : Int))) = true then (grd (0 ≤ x25 ∧ x25 < a0.length) ((f_frame_Put (rd a0 x25)).bind fun (r38, r39) => (if (!r39.isNil) = true then ((f_fault_Wrap (⟨#[102, 114, 97, 109, 101]⟩ : ByteArray) x25 r39).bind fun (r46 : GErr) => (some (Sum.inr (Sum.inr ([], r46))))) else (grd (x24.length + r38.length ≤ 274877906944) (some (Sum.inl (x24 ++ r38, IntKind.i64.wrap (x25 + (1 : Int))))))))) else (some (Sum.inr (Sum.inl x24))))
noncomputable def f_frame_All (a0 : (List T_api_Frame)) : Option ((List Int) × GErr) :=
  ((((iter (f_frame_All_l0 a0) ([], (0 : Int))).bind (Sum.elim (fun (x26 : (List Int)) => (some (Sum.inl x26))) (fun (x27, x28) => (((some (x27, x28))).bind fun r => some (Sum.inr r))))) : Option ((List Int) ⊕ ((List Int) × GErr))).bind (Sum.elim (fun (x21 : (List Int)) => (some (x21, GErr.nil))) some))
def f_frame_All_post (a0 : (List T_api_Frame)) (v0 : Value) : ((List Int) × GErr) → Value → IM → HL → Prop :=
  fun (p_ : ((List Int) × GErr)) (v : Value) (M' : IM) (H' : HL) => match p_ with | (r0, r1) => ∃ vz0 cz0, (.tuple #[vz0, (GV r1)]) = v ∧ H' = [cz0] ∧ OwnS (Kd.int .u8) M' vz0 r0 cz0
theorem f_frame_All_ok (a0 : (List T_api_Frame)) (M : IM) (v0 : Value) (h0 : RS kd_api_Frame M v0 a0) (res : ((List Int) × GErr)) (h : f_frame_All a0 = some res) :
    Tri Tryd.prog 12 #[v0] M [] (f_frame_All_post a0 v0 res) := by
 unfold f_frame_All at h
 refine Tri.enter (fn := Tryd.f12) Tryd.func12 rfl (Nat.le_of_ble_eq_true rfl) ?_
 intro F ρ hρ
 refine Sr ?_
 refine Pa (.slice none 0 0) rfl rfl ?_
 refine Pa (GV GErr.nil) rfl rfl ?_
 refine Ns ?_
 refine Pa (.slice none 0 0) rfl rfl ?_
 refine Nt ?_
 obtain ⟨j22, hj22, h⟩ := bnd h
 refine WC.joinE (fun (x21 : (List Int)) ρ' M' H' => ∃ vx21 cx21, M.le M' ∧ cx21 :: F = H' ∧ ρ' 4 = vx21 ∧ OwnS (Kd.int .u8) M' vx21 x21 cx21) j22 ?_ ?_
 have h322 := h
 have h := hj22
 refine Sr ?_
 refine Pm v0 (hρ 0) rfl ?_
 refine Pu (.int .i64 (a0.length : Int)) (PO.lenS Tryd.underlying22 rfl h0.len) rfl ?_
 refine Pm (.int .i64 0) rfl rfl ?_
 refine Nt ?_
 refine WC.block ?_
 refine WC.e0 ?_
 obtain ⟨e23, he23, hK23⟩ := bnd h
 clear h
 refine WC.loop he23 (fun (p_ : ((List Int) × Int)) ρ' M' H' => match p_ with | (x24, x25) => ∃ vx24 cx24, M.le M' ∧ cx24 :: F = H' ∧ ρ' 4 = vx24 ∧ ρ' 9 = v0 ∧ ρ' 10 = (.int .i64 (a0.length : Int)) ∧ ρ' 11 = (.int .i64 x25) ∧ OwnS (Kd.int .u8) M' vx24 x24 cx24) ?_ ?_
 exact ⟨(.slice none 0 0), [], (IM.le.refl _), rfl, rfl, rfl, rfl, rfl, (OwnS.nil _ _)⟩
 rintro ⟨x24, x25⟩ o23 ρ23 M23 H23 h ⟨vx24, cx24, hle23, rfl, hs23_4, hs23_9, hs23_10, hs23_11, hx24⟩
 unfold f_frame_All_l0 at h
 have h0 := h0.mono hle23
 refine Sr ?_
 refine Pu (.bool (decide (x25 < (a0.length : Int)))) (PO.lss hs23_11 hs23_10) rfl ?_
 refine Nt ?_
 refine WC.seq ?_
 refine WC.cond (b := decide (x25 < (a0.length : Int))) rfl (fun hb29 => ?_) (fun hb29 => ?_)
 have h := ite_t hb29 h
 refine WC.skip ?_
 refine WQ.thenC ?_
 refine WC.seq ?_
 refine WC.block ?_
 refine Sr ?_
 refine Pm (.int .i64 x25) hs23_11 rfl ?_
 obtain ⟨hg30, h⟩ := grd_i h
 obtain ⟨p31, cs32, hat33, hrc34, hhas35⟩ := h0.at hg30.1 hg30.2 (by decide)
 obtain ⟨vw36_1, rfl, hw36_1⟩ := kd_api_Frame_open hrc34
 refine Pu (.pointer (some p31)) (PO.indexAddr (n := a0.length) Tryd.underlying22 sz40 hs23_9 hs23_11 hg30.1 hg30.2 hat33) rfl ?_
 refine Pu (.agg #[(.int .i64 ((rd a0 x25).Kind)), vw36_1]) (PO.loadMA (cs := [(.int .i64 ((rd a0 x25).Kind)), vw36_1]) ag40 sz40 rfl hhas35) rfl ?_
 refine WL.eff (EO.alloc ze40 rfl) rfl ?_
 rintro _ _ _ - ⟨rfl, g37, rfl, rfl⟩
 refine Pa (.int .i64 x25) rfl rfl ?_
 refine WL.eff (EO.storeL (v := (.agg #[(.int .i64 ((rd a0 x25).Kind)), vw36_1])) (vl := [(.int .i64 ((rd a0 x25).Kind)), vw36_1]) (arr' := [(.int .i64 ((rd a0 x25).Kind)), vw36_1]) rfl sz40 rfl rfl (onesOf (Ones.cons rfl (Ones.cons (RS.one hw36_1) Ones.nil))) rfl rfl rfl) rfl ?_
 rintro _ _ _ - ⟨rfl, rfl⟩
 refine Ns ?_
 refine Pu (.agg #[(.int .i64 ((rd a0 x25).Kind)), vw36_1]) (PO.loadBA (cs := [(.int .i64 ((rd a0 x25).Kind)), vw36_1]) 0 ag40 sz40 rfl rfl rfl) rfl ?_
 obtain ⟨⟨r38, r39⟩, hr40, h⟩ := bnd h
 refine WL.eff (EO.call0 co17 (f_frame_Put_ok (rd a0 x25) _ _ hw36_1 (r38, r39) hr40) (args1 rfl)) rfl ?_
 rintro _ M41 _ hle42 ⟨_, ⟨vq43, cq43, rfl, rfl, hq43⟩, rfl⟩
 have hx24 := hx24.mono hle42
 have h0 := h0.mono hle42
 have hw36_1 := hw36_1.mono hle42
 refine WL.a1 ?_
 refine Pm (.tuple #[vq43, (GV r39)]) rfl rfl ?_
 refine Pu vq43 (PO.extract rfl rfl) rfl ?_
 refine Pu (GV r39) (PO.extract rfl rfl) rfl ?_
 refine Pa vq43 rfl rfl ?_
 refine Pa (GV r39) rfl rfl ?_
 refine Nt ?_
 refine WC.seq ?_
 refine Sr ?_
 refine Pm (GV r39) rfl rfl ?_
 refine Pu (.bool (!r39.isNil)) (PO.errNotNil Tryd.underlying28 rfl) rfl ?_
 refine Nt ?_
 refine WC.cond (b := !r39.isNil) rfl (fun hb45 => ?_) (fun hb45 => ?_)
 have h := ite_t hb45 h
 refine Sr ?_
 refine Pm (.int .i64 x25) rfl rfl ?_
 refine Pm (GV r39) rfl rfl ?_
 obtain ⟨r46, hr47, h⟩ := bnd h
 refine WL.eff (EO.call0 co36 (f_fault_Wrap_ok (⟨#[102, 114, 97, 109, 101]⟩ : ByteArray) x25 r39 _ r46 hr47) (args3 rfl rfl rfl)) rfl ?_
 rintro _ M48 _ hle49 ⟨_, ⟨rfl, rfl⟩, rfl⟩
 have hx24 := hx24.mono hle49
 have h0 := h0.mono hle49
 have hq43 := hq43.mono hle49
 have hw36_1 := hw36_1.mono hle49
 refine WL.a0 ?_
 refine Pa (.slice none 0 0) rfl rfl ?_
 refine Pa (GV r46) rfl rfl ?_
 refine Nt ?_
 refine WC.ret ?_
 refine WQ.thenR ?_
 refine WQ.blockR ?_
 refine WQ.thenR ?_
 refine WQ.leaveR (Sum.inr ([], r46)) (Option.some.inj h).symm (fun heq23 => ?_)
 subst heq23
 have h := (elimR hK23)
 refine WQ.blockR ?_
 refine WQ.thenR ?_
 have h := KK.early h h322
 refine WQ.e0 ?_
 refine WQ.f1 ?_
 refine WQ.drop ?_
 refine WQ.f1 ?_
 refine WQ.drop ?_
 refine WQ.f1 ?_
 refine WQ.drop ?_
 exact WQ.returnsF h [[]] rfl (results2 rfl rfl rfl) ((hle23.trans hle42).trans hle49) ⟨(.slice none 0 0), [], rfl, rfl, (OwnS.nil _ _)⟩
 have h := ite_f hb45 h
 refine WC.skip ?_
 refine WQ.thenC ?_
 refine WC.region ?_
 refine Pm vx24 hs23_4 rfl ?_
 refine Pm vq43 rfl rfl ?_
 obtain ⟨hg55, h⟩ := grd_i h
 refine WL.f2 ?_
 refine WL.eff (EO.append (dd := (Kd.int .u8)) (xs := x24) (ys := r38) Tryd.underlying26 Tryd.underlying26 in5 rfl (appB (by decide) hg55) (by decide) rfl rfl hx24 (hq43.src 1 rfl)) rfl ?_
 rintro v54 _ _ - ⟨rfl, c52, rfl, h53⟩
 refine Pa v54 rfl rfl ?_
 refine WL.nil ?_
 refine WQ.blockN ?_
 refine WQ.thenC ?_
 refine WC.region ?_
 refine Pu (.int .i64 (IntKind.i64.wrap (x25 + 1))) (PO.add hs23_11 rfl) rfl ?_
 refine Pm (.int .i64 (IntKind.i64.wrap (x25 + 1))) rfl rfl ?_
 refine WL.nil ?_
 refine WQ.f1 ?_
 refine WQ.drop ?_
 refine WQ.f1 ?_
 refine WQ.drop ?_
 refine WQ.again (x24 ++ r38, IntKind.i64.wrap (x25 + 1)) (Option.some.inj h).symm ?_
 exact ⟨v54, c52, (hle23.trans hle42), rfl, rfl, hs23_9, hs23_10, rfl, h53⟩
 have h := ite_f hb29 h
 refine WC.exit ?_
 refine WQ.thenE ?_
 refine WQ.leaveE (Sum.inl x24) (Option.some.inj h).symm (fun heq23 => ?_)
 subst heq23
 have h := elimL hK23
 refine WQ.blockH ?_
 refine WQ.thenFE h ?_
 exact ⟨vx24, cx24, hle23, rfl, hs23_4, hx24⟩
 rintro x21 ρ22 M22 H22 rfl ⟨vx21, cx21, hle22, rfl, hs22_4, hx21⟩
 have h := (Sum.elim_inl _ _ _).symm.trans h
 refine Sr ?_
 refine Pm vx21 hs22_4 rfl ?_
 refine Pa vx21 rfl rfl ?_
 refine Pa (GV GErr.nil) rfl rfl ?_
 refine Nt ?_
 refine WC.ret ?_
 exact WQ.returnsF h [cx21] rfl (results2 rfl rfl rfl) hle22 ⟨vx21, cx21, rfl, rfl, hx21⟩

noncomputable def f_wire_Read (a0 : (List Int)) : Option T_wire_Reader :=
  (some (⟨a0, (0 : Int), GErr.nil⟩ : T_wire_Reader))
def f_wire_Read_post (a0 : (List Int)) (v0 : Value) : T_wire_Reader → Value → IM → HL → Prop :=
  fun (r0 : T_wire_Reader) (v : Value) (M' : IM) (H' : HL) => ∃ b0 vq0_0, (.pointer (some ⟨b0, 0, none⟩)) = v ∧ H' = [[(b0, .cells #[vq0_0, (.int .i64 r0.at_), (GV r0.err)] 151 (0, 0))]] ∧ RS (Kd.int .u8) M' vq0_0 r0.b
theorem f_wire_Read_ok (a0 : (List Int)) (M : IM) (v0 : Value) (h0 : RS (Kd.int .u8) M v0 a0) (res : T_wire_Reader) (h : f_wire_Read a0 = some res) :
    Tri Tryd.prog 54 #[v0] M [] (f_wire_Read_post a0 v0 res) := by
 unfold f_wire_Read at h
 refine Tri.enter (fn := Tryd.f54) Tryd.func54 rfl (Nat.le_of_ble_eq_true rfl) ?_
 intro F ρ hρ
 refine Sr ?_
 refine Pa (.pointer none) rfl rfl ?_
 refine Ns ?_
 refine Pm v0 (hρ 0) rfl ?_
 refine Pu (.agg #[v0, (.int .i64 0), (GV GErr.nil)]) (PO.buildL (cl := [v0, (.int .i64 0), (GV GErr.nil)]) ze151 fp151 (Parts.cons ((congrArg Value.cells (show ev _ _ = v0 from rfl)).trans h0.cells) Parts.nil) rfl) rfl ?_
 refine WL.eff (EO.box (cs := #[v0, (.int .i64 0), (GV GErr.nil)]) (congrArg Value.cells (show ev _ _ = (.agg #[v0, (.int .i64 0), (GV GErr.nil)]) from rfl))) rfl ?_
 rintro _ _ _ - ⟨rfl, g21, rfl, rfl⟩
 refine Pa (pt g21 0) rfl rfl ?_
 refine Nt ?_
 refine WC.ret ?_
 exact WQ.returnsF h [[(g21, .cells #[v0, (.int .i64 0), (GV GErr.nil)] 151 (0, 0))]] rfl (results1 rfl rfl) (IM.le.refl _) ⟨g21, v0, rfl, rfl, h0⟩

noncomputable def f_wire_Reader_fail (a0 : T_wire_Reader) (a1 : ByteArray) (a2 : Int) (a3 : Int) : Option GErr :=
  (if a0.err.isNil = true then ((f_fault_New a1 a2 a3).bind fun (r22 : GErr) => (some r22)) else (some a0.err))
def f_wire_Reader_fail_post (a0 : T_wire_Reader) (a1 : ByteArray) (a2 : Int) (a3 : Int) (v0_0 : Value) (g0 : Nat) : GErr → Value → IM → HL → Prop :=
  fun (r0 : GErr) (v : Value) (M' : IM) (H' : HL) => (.tuple #[]) = v ∧ H' = [[(g0, .cells #[v0_0, (.int .i64 a0.at_), (GV r0)] 151 (0, 0))]]
theorem f_wire_Reader_fail_ok (a0 : T_wire_Reader) (a1 : ByteArray) (a2 : Int) (a3 : Int) (M : IM) (v0_0 : Value) (g0 : Nat) (h0_0 : RS (Kd.int .u8) M v0_0 a0.b) (res : GErr) (h : f_wire_Reader_fail a0 a1 a2 a3 = some res) :
    Tri Tryd.prog 87 #[(pt g0 0), (.string a1), (.int .i64 a2), (.int .i64 a3)] M [[(g0, .cells #[v0_0, (.int .i64 a0.at_), (GV a0.err)] 151 (0, 0))]] (f_wire_Reader_fail_post a0 a1 a2 a3 v0_0 g0 res) := by
 unfold f_wire_Reader_fail at h
 refine Tri.enter (fn := Tryd.f87) Tryd.func87 rfl (Nat.le_of_ble_eq_true rfl) ?_
 intro F ρ hρ
 refine Sr ?_
 refine Pm (pt g0 0) (hρ 0) rfl ?_
 refine Pu (pt g0 0) (PO.nilCheck rfl) rfl ?_
 refine Pu (pt g0 2) (PO.fieldAddr fo151_2 rfl rfl) rfl ?_
 refine Pu (GV a0.err) (PO.loadB 0 pl28 rfl rfl rfl) rfl ?_
 refine Pu (.bool a0.err.isNil) (PO.errNil Tryd.underlying28 rfl) rfl ?_
 refine Nt ?_
 refine WC.cond (b := a0.err.isNil) rfl (fun hb21 => ?_) (fun hb21 => ?_)
 have h := ite_t hb21 h
 refine WC.region ?_
 refine Pm (pt g0 0) (hρ 0) rfl ?_
 refine Pm (.string a1) (hρ 1) rfl ?_
 refine Pm (.int .i64 a2) (hρ 2) rfl ?_
 refine Pm (.int .i64 a3) (hρ 3) rfl ?_
 obtain ⟨r22, hr23, h⟩ := bnd h
 refine WL.eff (EO.call0 co37 (f_fault_New_ok a1 a2 a3 _ r22 hr23) (args3 rfl rfl rfl)) rfl ?_
 rintro _ M24 _ hle25 ⟨_, ⟨rfl, rfl⟩, rfl⟩
 have h0_0 := h0_0.mono hle25
 refine WL.a0 ?_
 refine Pu (pt g0 0) (PO.nilCheck rfl) rfl ?_
 refine Pu (pt g0 2) (PO.fieldAddr fo151_2 rfl rfl) rfl ?_
 refine WL.eff (EO.storeL (v := (GV r22)) (vl := [(GV r22)]) (arr' := [v0_0, (.int .i64 a0.at_), (GV r22)]) (GErr.val_cells _ _ _ _) sz28 rfl rfl (onesOf (Ones.cons (GErr.val_one _ _ _ _) Ones.nil)) rfl rfl rfl) rfl ?_
 rintro _ _ _ - ⟨rfl, rfl⟩
 refine WL.nil ?_
 exact WQ.endsF h [[(g0, .cells #[v0_0, (.int .i64 a0.at_), (GV r22)] 151 (0, 0))]] rfl (results0 rfl) hle25 ⟨rfl, rfl⟩
 have h := ite_f hb21 h
 refine WC.skip ?_
 exact WQ.endsF h [[(g0, .cells #[v0_0, (.int .i64 a0.at_), (GV a0.err)] 151 (0, 0))]] rfl (results0 rfl) (IM.le.refl _) ⟨rfl, rfl⟩

noncomputable def f_wire_Reader_Num_1 (a0 : Int) (a1 : (List Int)) (a2 : Int) : Option (Int × Int) :=
  (grd (0 ≤ a2 ∧ a2 < a1.length) (some (orI .u64 (shlI .u64 a0 (8 : Int)) (IntKind.u64.wrap (rd a1 a2)), IntKind.i64.wrap (a2 + (1 : Int)))))
def f_wire_Reader_Num_1_post (a0 : Int) (a1 : (List Int)) (a2 : Int) (v1 : Value) (g0 g1 g2 : Nat) : (Int × Int) → Value → IM → HL → Prop :=
  fun (p_ : (Int × Int)) (v : Value) (M' : IM) (H' : HL) => match p_ with | (r0, r1) => (.tuple #[]) = v ∧ H' = [[(g0, .cells #[(.int .u64 r0)] 42 (0, 0))], [(g1, .cells #[v1] 26 (0, 0))], [(g2, .cells #[(.int .i64 r1)] 3 (0, 0))]]
theorem f_wire_Reader_Num_1_ok (a0 : Int) (a1 : (List Int)) (a2 : Int) (M : IM) (v1 : Value) (g0 g1 g2 : Nat) (h1 : RS (Kd.int .u8) M v1 a1) (res : (Int × Int)) (h : f_wire_Reader_Num_1 a0 a1 a2 = some res) :
    Tri Tryd.prog 115 #[(pt g0 0), (pt g1 0), (pt g2 0)] M [[(g0, .cells #[(.int .u64 a0)] 42 (0, 0))], [(g1, .cells #[v1] 26 (0, 0))], [(g2, .cells #[(.int .i64 a2)] 3 (0, 0))]] (f_wire_Reader_Num_1_post a0 a1 a2 v1 g0 g1 g2 res) := by
 unfold f_wire_Reader_Num_1 at h
 refine Tri.enter (fn := Tryd.f115) Tryd.func115 rfl (Nat.le_of_ble_eq_true rfl) ?_
 intro F ρ hρ
 refine WC.seq ?_
 refine WC.draw [0, 1, 0, 0, 12, 28, 60, 127, 255] (.pure 0 (.pure 1 (.pure 2 (.pure 3 (.pure 4 (.pure 5 (.pure 6 (.pure 7 (.alt 8 .done .none))))))))) mixed (by kernel_rfl) ?_
 refine Tp (.int .u64 a0) rfl (PO.loadB 0 pl42 (hρ 0) rfl rfl) rfl ?_
 refine Tp (.int .u64 (shlI .u64 a0 (8 : Int))) rfl (PO.shl rfl rfl (by decide)) rfl ?_
 refine Tp v1 rfl (PO.loadB 1 pl26 (hρ 1) rfl rfl) rfl ?_
 refine Tp (.int .i64 a2) rfl (PO.loadB 2 pl3 (hρ 2) rfl rfl) rfl ?_
 obtain ⟨hg21, h⟩ := grd_i h
 obtain ⟨p22, cs23, hat24, hrc25, hhas26⟩ := h1.at hg21.1 hg21.2 (by decide)
 obtain rfl := hrc25
 refine Tp (.pointer (some p22)) rfl (PO.indexAddr (n := a1.length) Tryd.underlying26 sz5 rfl rfl hg21.1 hg21.2 hat24) rfl ?_
 refine Tp (.int .u8 (rd a1 a2)) rfl (PO.loadM pl5 rfl (IM.has0 hhas26)) rfl ?_
 refine Tp (.int .u64 (IntKind.u64.wrap (rd a1 a2))) rfl (PO.conv us5 Tryd.underlying42 rfl) rfl ?_
 refine Tp (.int .u64 (orI .u64 (shlI .u64 a0 (8 : Int)) (IntKind.u64.wrap (rd a1 a2)))) rfl (PO.or rfl rfl) rfl ?_
 refine WT.alt rfl (EO.storeL (v := (.int .u64 (orI .u64 (shlI .u64 a0 (8 : Int)) (IntKind.u64.wrap (rd a1 a2))))) (vl := [(.int .u64 (orI .u64 (shlI .u64 a0 (8 : Int)) (IntKind.u64.wrap (rd a1 a2))))]) (arr' := [(.int .u64 (orI .u64 (shlI .u64 a0 (8 : Int)) (IntKind.u64.wrap (rd a1 a2))))]) rfl sz42 (hρ 0) rfl (onesOf (Ones.cons rfl Ones.nil)) rfl rfl rfl) rfl ?_ ?_
 rintro _ _ _ - ⟨rfl, rfl⟩
 refine ⟨(StabL.anc rfl (StabL.anc rfl (StabL.anc rfl (StabL.anc rfl (StabL.anc rfl (StabL.anc rfl (StabL.anc rfl (StabL.anc rfl trivial)))))))), ?_⟩
 refine WT.fin ?_
 refine WQ.thenC ?_
 refine WC.region ?_
 refine Pu (.int .i64 a2) (PO.loadB 2 pl3 (hρ 2) rfl rfl) rfl ?_
 refine Pu (.int .i64 (IntKind.i64.wrap (a2 + 1))) (PO.add rfl rfl) rfl ?_
 refine WL.f2 ?_
 refine WL.eff (EO.storeL (v := (.int .i64 (IntKind.i64.wrap (a2 + 1)))) (vl := [(.int .i64 (IntKind.i64.wrap (a2 + 1)))]) (arr' := [(.int .i64 (IntKind.i64.wrap (a2 + 1)))]) rfl sz3 (hρ 2) rfl (onesOf (Ones.cons rfl Ones.nil)) rfl rfl rfl) rfl ?_
 rintro _ _ _ - ⟨rfl, rfl⟩
 refine WL.nil ?_
 refine WQ.f2 ?_
 refine WQ.f2 ?_
 exact WQ.endsF h [[(g0, .cells #[(.int .u64 (orI .u64 (shlI .u64 a0 (8 : Int)) (IntKind.u64.wrap (rd a1 a2))))] 42 (0, 0))], [(g1, .cells #[v1] 26 (0, 0))], [(g2, .cells #[(.int .i64 (IntKind.i64.wrap (a2 + 1)))] 3 (0, 0))]] rfl (results0 rfl) (IM.le.refl _) ⟨rfl, rfl⟩
 exact WT.no

noncomputable def f_wire_Reader_Num (a0 : T_wire_Reader) (a1 : Int) : Option (Int × Int × GErr) :=
  (if (!a0.err.isNil) = true then (some ((0 : Int), a0.at_, a0.err)) else (grd (0 ≤ a0.at_ ∧ a0.at_ ≤ (a0.b.length : Int) ∧ (a0.b.length : Int) ≤ (a0.b.length : Int)) (if (decide (((sub a0.b a0.at_ (a0.b.length : Int)).length : Int) = (0 : Int))) = true then ((f_wire_Reader_fail a0 (⟨#[110, 117, 109]⟩ : ByteArray) a0.at_ (3 : Int)).bind fun (r26 : GErr) => (some ((0 : Int), a0.at_, r26))) else (grd (0 ≤ (0 : Int) ∧ (0 : Int) < (sub a0.b a0.at_ (a0.b.length : Int)).length) (grd (0 ≤ shrI .u8 (rd (sub a0.b a0.at_ (a0.b.length : Int)) (0 : Int)) (6 : Int)) (if (decide (((sub a0.b a0.at_ (a0.b.length : Int)).length : Int) < (shlI .i64 (1 : Int) (shrI .u8 (rd (sub a0.b a0.at_ (a0.b.length : Int)) (0 : Int)) (6 : Int))))) = true then ((f_wire_Reader_fail a0 (⟨#[110, 117, 109]⟩ : ByteArray) a0.at_ (3 : Int)).bind fun (r39 : GErr) => (some ((0 : Int), a0.at_, r39))) else (grd (0 ≤ (0 : Int) ∧ (0 : Int) < (sub a0.b a0.at_ (a0.b.length : Int)).length) (((((((if (decide ((shlI .i64 (1 : Int) (shrI .u8 (rd (sub a0.b a0.at_ (a0.b.length : Int)) (0 : Int)) (6 : Int))) = (8 : Int))) = true then ((f_wire_Reader_Num_1 (IntKind.u64.wrap (andI .u8 (rd (sub a0.b a0.at_ (a0.b.length : Int)) (0 : Int)) (63 : Int))) (sub a0.b a0.at_ (a0.b.length : Int)) (1 : Int)).bind fun (r65, r66) => ((f_wire_Reader_Num_1 r65 (sub a0.b a0.at_ (a0.b.length : Int)) r66).bind fun (r70, r71) => ((f_wire_Reader_Num_1 r70 (sub a0.b a0.at_ (a0.b.length : Int)) r71).bind fun (r75, r76) => ((f_wire_Reader_Num_1 r75 (sub a0.b a0.at_ (a0.b.length : Int)) r76).bind fun (r80, r81) => (some (Sum.inl (IntKind.u64.wrap ((0 : Int) + (1073725440 : Int)), r81, r80))))))) else (if (decide ((shlI .i64 (1 : Int) (shrI .u8 (rd (sub a0.b a0.at_ (a0.b.length : Int)) (0 : Int)) (6 : Int))) = (4 : Int))) = true then (some (Sum.inl ((0 : Int), (1 : Int), IntKind.u64.wrap (andI .u8 (rd (sub a0.b a0.at_ (a0.b.length : Int)) (0 : Int)) (63 : Int))))) else (if (decide ((shlI .i64 (1 : Int) (shrI .u8 (rd (sub a0.b a0.at_ (a0.b.length : Int)) (0 : Int)) (6 : Int))) = (2 : Int))) = true then (((some (Sum.inl ((0 : Int), (1 : Int), IntKind.u64.wrap (andI .u8 (rd (sub a0.b a0.at_ (a0.b.length : Int)) (0 : Int)) (63 : Int)))))).bind fun r => some (Sum.inr r)) else (((((some ((0 : Int), (1 : Int), IntKind.u64.wrap (andI .u8 (rd (sub a0.b a0.at_ (a0.b.length : Int)) (0 : Int)) (63 : Int))))).bind fun r => some (Sum.inr r))).bind fun r => some (Sum.inr r))))) : Option ((Int × Int × Int) ⊕ ((Int × Int × Int) ⊕ (Int × Int × Int)))).bind (Sum.elim (fun (x60, x61, x62) => ((f_wire_Reader_Num_1 x62 (sub a0.b a0.at_ (a0.b.length : Int)) x61).bind fun (r87, r88) => ((f_wire_Reader_Num_1 r87 (sub a0.b a0.at_ (a0.b.length : Int)) r88).bind fun (r92, r93) => (some (Sum.inl (IntKind.u64.wrap (x60 + (16320 : Int)), r93, r92)))))) some)) : Option ((Int × Int × Int) ⊕ (Int × Int × Int))).bind (Sum.elim (fun (x56, x57, x58) => ((f_wire_Reader_Num_1 x58 (sub a0.b a0.at_ (a0.b.length : Int)) x57).bind fun (r97, r98) => (some (IntKind.u64.wrap (x56 + (64 : Int)), r98, r97)))) some)) : Option (Int × Int × Int)).bind fun (x52, x53, x54) => (if (decide (x54 < x52)) = true then ((f_wire_Reader_fail a0 (⟨#[110, 117, 109]⟩ : ByteArray) a0.at_ (5 : Int)).bind fun (r103 : GErr) => (some ((0 : Int), a0.at_, r103))) else (if (decide (a1 < x54)) = true then ((f_wire_Reader_fail a0 (⟨#[110, 117, 109]⟩ : ByteArray) a0.at_ (6 : Int)).bind fun (r108 : GErr) => (some ((0 : Int), a0.at_, r108))) else (some (x54, IntKind.i64.wrap (a0.at_ + (shlI .i64 (1 : Int) (shrI .u8 (rd (sub a0.b a0.at_ (a0.b.length : Int)) (0 : Int)) (6 : Int)))), a0.err))))))))))))
def f_wire_Reader_Num_post (a0 : T_wire_Reader) (a1 : Int) (v0_0 : Value) (g0 : Nat) : (Int × Int × GErr) → Value → IM → HL → Prop :=
  fun (p_ : (Int × Int × GErr)) (v : Value) (M' : IM) (H' : HL) => match p_ with | (r0, r1, r2) => (.int .u64 r0) = v ∧ H' = [[(g0, .cells #[v0_0, (.int .i64 r1), (GV r2)] 151 (0, 0))]]
theorem f_wire_Reader_Num_ok (a0 : T_wire_Reader) (a1 : Int) (M : IM) (v0_0 : Value) (g0 : Nat) (h0_0 : RS (Kd.int .u8) M v0_0 a0.b) (res : (Int × Int × GErr)) (h : f_wire_Reader_Num a0 a1 = some res) :
    Tri Tryd.prog 92 #[(pt g0 0), (.int .u64 a1)] M [[(g0, .cells #[v0_0, (.int .i64 a0.at_), (GV a0.err)] 151 (0, 0))]] (f_wire_Reader_Num_post a0 a1 v0_0 g0 res) := by
 unfold f_wire_Reader_Num at h
 refine Tri.enter (fn := Tryd.f92) Tryd.func92 rfl (Nat.le_of_ble_eq_true rfl) ?_
 intro F ρ hρ
 refine Sr ?_
 refine Pa (.int .u64 0) rfl rfl ?_
 refine Nt ?_
 refine WC.seq ?_
 refine Sr ?_
 refine Pm (pt g0 0) (hρ 0) rfl ?_
 refine Pu (pt g0 0) (PO.nilCheck rfl) rfl ?_
 refine Pu (pt g0 2) (PO.fieldAddr fo151_2 rfl rfl) rfl ?_
 refine Pu (GV a0.err) (PO.loadB 0 pl28 rfl rfl rfl) rfl ?_
 refine Pu (.bool (!a0.err.isNil)) (PO.errNotNil Tryd.underlying28 rfl) rfl ?_
 refine Nt ?_
 refine WC.cond (b := !a0.err.isNil) rfl (fun hb21 => ?_) (fun hb21 => ?_)
 have h := ite_t hb21 h
 refine Sr ?_
 refine Pa (.int .u64 0) rfl rfl ?_
 refine Nt ?_
 refine WC.ret ?_
 refine WQ.thenR ?_
 exact WQ.returnsF h [[(g0, .cells #[v0_0, (.int .i64 a0.at_), (GV a0.err)] 151 (0, 0))]] rfl (results1 rfl rfl) (IM.le.refl _) ⟨rfl, rfl⟩
 have h := ite_f hb21 h
 refine WC.skip ?_
 refine WQ.thenC ?_
 refine WC.seq ?_
 refine WC.draw [0, 1, 3, 7, 0, 16, 48, 112, 255, 0, 1023] (.pure 0 (.pure 1 (.pure 2 (.pure 3 (.pure 4 (.pure 5 (.pure 6 (.pure 7 (.pure 8 (.alt 9 (.alt 10 .done .none) .none)))))))))) mixed (by kernel_rfl) ?_
 refine Tp (pt g0 0) rfl (PO.move (hρ 0)) rfl ?_
 refine Tp (pt g0 0) rfl (PO.nilCheck rfl) rfl ?_
 refine Tp (pt g0 0) rfl (PO.fieldAddr fo151_0 rfl rfl) rfl ?_
 refine Tp v0_0 rfl (PO.loadB 0 pl26 rfl rfl rfl) rfl ?_
 refine Tp (pt g0 0) rfl (PO.move (hρ 0)) rfl ?_
 refine Tp (pt g0 0) rfl (PO.nilCheck rfl) rfl ?_
 refine Tp (pt g0 1) rfl (PO.fieldAddr fo151_1 rfl rfl) rfl ?_
 refine Tp (.int .i64 a0.at_) rfl (PO.loadB 0 pl3 rfl rfl rfl) rfl ?_
 obtain ⟨hg22, h⟩ := grd_i h
 have h23 := h0_0.sub hg22.1 hg22.2.1 hg22.2.2
 refine Tp (slV v0_0 1 (a0.at_).toNat ((a0.b.length : Int)).toNat) rfl (PO.slice (n := a0.b.length) (l := (a0.at_).toNat) (h := ((a0.b.length : Int)).toNat) Tryd.underlying26 sz5 rfl h0_0.len h0_0.cap ⟨_, _, rfl, hg22.1, rfl⟩ (boundN_ rfl) (Int.toNat_le_toNat hg22.2.1) (toNat_le_len hg22.2.2)) rfl ?_
 refine WT.alt rfl (EO.alloc ze26 rfl) rfl ?_ ?_
 rintro _ _ _ - ⟨rfl, g24, rfl, rfl⟩
 refine ⟨(StabL.st (StabA.of rfl (PO.slice (n := a0.b.length) (l := (a0.at_).toNat) (h := ((a0.b.length : Int)).toNat) Tryd.underlying26 sz5 rfl h0_0.len h0_0.cap ⟨_, _, rfl, hg22.1, rfl⟩ (boundN_ rfl) (Int.toNat_le_toNat hg22.2.1) (toNat_le_len hg22.2.2)) rfl) (StabL.st (StabA.of rfl (PO.loadB 1 pl3 rfl rfl rfl) rfl) (StabL.st (StabA.of rfl (PO.fieldAddr fo151_1 rfl rfl) rfl) (StabL.st (StabA.of rfl (PO.nilCheck rfl) rfl) (StabL.st (StabA.of rfl (PO.move (hρ 0)) rfl) (StabL.st (StabA.of rfl (PO.loadB 1 pl26 rfl rfl rfl) rfl) (StabL.st (StabA.of rfl (PO.fieldAddr fo151_0 rfl rfl) rfl) (StabL.st (StabA.of rfl (PO.nilCheck rfl) rfl) (StabL.st (StabA.of rfl (PO.move (hρ 0)) rfl) trivial))))))))), ?_⟩
 refine WT.alt rfl (EO.storeL (v := (slV v0_0 1 (a0.at_).toNat ((a0.b.length : Int)).toNat)) (vl := [(slV v0_0 1 (a0.at_).toNat ((a0.b.length : Int)).toNat)]) (arr' := [(slV v0_0 1 (a0.at_).toNat ((a0.b.length : Int)).toNat)]) h23.cells sz26 rfl rfl (onesOf (Ones.cons (RS.one h23) Ones.nil)) rfl rfl rfl) rfl ?_ ?_
 rintro _ _ _ - ⟨rfl, rfl⟩
 refine ⟨(StabL.anc rfl (StabL.anc rfl (StabL.anc rfl (StabL.anc rfl (StabL.anc rfl (StabL.anc rfl (StabL.anc rfl (StabL.anc rfl (StabL.anc rfl trivial))))))))), ?_⟩
 refine WT.fin ?_
 refine WQ.thenC ?_
 refine WC.seq ?_
 refine Sr ?_
 refine Pu (slV v0_0 1 (a0.at_).toNat ((a0.b.length : Int)).toNat) (PO.loadB 0 pl26 rfl rfl rfl) rfl ?_
 refine Pu (.int .i64 ((sub a0.b a0.at_ (a0.b.length : Int)).length : Int)) (PO.lenS Tryd.underlying26 rfl h23.len) rfl ?_
 refine Pu (.bool (decide (((sub a0.b a0.at_ (a0.b.length : Int)).length : Int) = (0 : Int)))) (PO.eql rfl rfl) rfl ?_
 refine Nt ?_
 refine WC.cond (b := decide (((sub a0.b a0.at_ (a0.b.length : Int)).length : Int) = (0 : Int))) rfl (fun hb25 => ?_) (fun hb25 => ?_)
 have h := ite_t hb25 h
 refine Sr ?_
 refine Pm (pt g0 0) (hρ 0) rfl ?_
 refine Pm (pt g0 0) (hρ 0) rfl ?_
 refine Pu (pt g0 0) (PO.nilCheck rfl) rfl ?_
 refine Pu (pt g0 1) (PO.fieldAddr fo151_1 rfl rfl) rfl ?_
 refine Pu (.int .i64 a0.at_) (PO.loadB 1 pl3 rfl rfl rfl) rfl ?_
 obtain ⟨r26, hr27, h⟩ := bnd h
 refine WL.f1 ?_
 refine WL.eff (EO.call1 co87 (f_wire_Reader_fail_ok a0 (⟨#[110, 117, 109]⟩ : ByteArray) a0.at_ (3 : Int) _ _ _ h0_0 r26 hr27) (args4 rfl rfl rfl rfl)) rfl ?_
 rintro _ M28 _ hle29 ⟨_, ⟨rfl, rfl⟩, rfl⟩
 have h0_0 := h0_0.mono hle29
 have h23 := h23.mono hle29
 refine WL.a1 ?_
 refine Ns ?_
 refine Pa (.int .u64 0) rfl rfl ?_
 refine Nt ?_
 refine WC.ret ?_
 refine WQ.thenR ?_
 refine WQ.f1 ?_
 refine WQ.drop ?_
 exact WQ.returnsF h [[(g0, .cells #[v0_0, (.int .i64 a0.at_), (GV r26)] 151 (0, 0))]] rfl (results1 rfl rfl) hle29 ⟨rfl, rfl⟩
 have h := ite_f hb25 h
 refine WC.skip ?_
 refine WQ.thenC ?_
 refine Sr ?_
 refine Pu (slV v0_0 1 (a0.at_).toNat ((a0.b.length : Int)).toNat) (PO.loadB 0 pl26 rfl rfl rfl) rfl ?_
 obtain ⟨hg30, h⟩ := grd_i h
 obtain ⟨p31, cs32, hat33, hrc34, hhas35⟩ := h23.at hg30.1 hg30.2 (by decide)
 obtain rfl := hrc34
 refine Pu (.pointer (some p31)) (PO.indexAddr (n := (sub a0.b a0.at_ (a0.b.length : Int)).length) Tryd.underlying26 sz5 rfl rfl hg30.1 hg30.2 hat33) rfl ?_
 refine Pu (.int .u8 (rd (sub a0.b a0.at_ (a0.b.length : Int)) (0 : Int))) (PO.loadM pl5 rfl (IM.has0 hhas35)) rfl ?_
 refine Pu (.int .u8 (shrI .u8 (rd (sub a0.b a0.at_ (a0.b.length : Int)) (0 : Int)) (6 : Int))) (PO.shr rfl rfl (by decide)) rfl ?_
 obtain ⟨hg37, h⟩ := grd_i h
 refine Pu (.int .i64 (shlI .i64 (1 : Int) (shrI .u8 (rd (sub a0.b a0.at_ (a0.b.length : Int)) (0 : Int)) (6 : Int)))) (PO.shl rfl rfl hg37) rfl ?_
 refine Pa (.int .i64 (shlI .i64 (1 : Int) (shrI .u8 (rd (sub a0.b a0.at_ (a0.b.length : Int)) (0 : Int)) (6 : Int)))) rfl rfl ?_
 refine Nt ?_
 refine WC.seq ?_
 refine Sr ?_
 refine Pu (slV v0_0 1 (a0.at_).toNat ((a0.b.length : Int)).toNat) (PO.loadB 0 pl26 rfl rfl rfl) rfl ?_
 refine Pu (.int .i64 ((sub a0.b a0.at_ (a0.b.length : Int)).length : Int)) (PO.lenS Tryd.underlying26 rfl h23.len) rfl ?_
 refine Pm (.int .i64 (shlI .i64 (1 : Int) (shrI .u8 (rd (sub a0.b a0.at_ (a0.b.length : Int)) (0 : Int)) (6 : Int)))) rfl rfl ?_
 refine Pu (.bool (decide (((sub a0.b a0.at_ (a0.b.length : Int)).length : Int) < (shlI .i64 (1 : Int) (shrI .u8 (rd (sub a0.b a0.at_ (a0.b.length : Int)) (0 : Int)) (6 : Int)))))) (PO.lss rfl rfl) rfl ?_
 refine Nt ?_
 refine WC.cond (b := decide (((sub a0.b a0.at_ (a0.b.length : Int)).length : Int) < (shlI .i64 (1 : Int) (shrI .u8 (rd (sub a0.b a0.at_ (a0.b.length : Int)) (0 : Int)) (6 : Int))))) rfl (fun hb38 => ?_) (fun hb38 => ?_)
 have h := ite_t hb38 h
 refine Sr ?_
 refine Pm (pt g0 0) (hρ 0) rfl ?_
 refine Pm (pt g0 0) (hρ 0) rfl ?_
 refine Pu (pt g0 0) (PO.nilCheck rfl) rfl ?_
 refine Pu (pt g0 1) (PO.fieldAddr fo151_1 rfl rfl) rfl ?_
 refine Pu (.int .i64 a0.at_) (PO.loadB 1 pl3 rfl rfl rfl) rfl ?_
 obtain ⟨r39, hr40, h⟩ := bnd h
 refine WL.f1 ?_
 refine WL.eff (EO.call1 co87 (f_wire_Reader_fail_ok a0 (⟨#[110, 117, 109]⟩ : ByteArray) a0.at_ (3 : Int) _ _ _ h0_0 r39 hr40) (args4 rfl rfl rfl rfl)) rfl ?_
 rintro _ M41 _ hle42 ⟨_, ⟨rfl, rfl⟩, rfl⟩
 have h0_0 := h0_0.mono hle42
 have h23 := h23.mono hle42
 refine WL.a1 ?_
 refine Ns ?_
 refine Pa (.int .u64 0) rfl rfl ?_
 refine Nt ?_
 refine WC.ret ?_
 refine WQ.thenR ?_
 refine WQ.f1 ?_
 refine WQ.drop ?_
 exact WQ.returnsF h [[(g0, .cells #[v0_0, (.int .i64 a0.at_), (GV r39)] 151 (0, 0))]] rfl (results1 rfl rfl) hle42 ⟨rfl, rfl⟩
 have h := ite_f hb38 h
 refine WC.skip ?_
 refine WQ.thenC ?_
 refine Sr ?_
 refine Pu (slV v0_0 1 (a0.at_).toNat ((a0.b.length : Int)).toNat) (PO.loadB 0 pl26 rfl rfl rfl) rfl ?_
 obtain ⟨hg43, h⟩ := grd_i h
 obtain ⟨p44, cs45, hat46, hrc47, hhas48⟩ := h23.at hg43.1 hg43.2 (by decide)
 obtain rfl := hrc47
 refine Pu (.pointer (some p44)) (PO.indexAddr (n := (sub a0.b a0.at_ (a0.b.length : Int)).length) Tryd.underlying26 sz5 rfl rfl hg43.1 hg43.2 hat46) rfl ?_
 refine Pu (.int .u8 (rd (sub a0.b a0.at_ (a0.b.length : Int)) (0 : Int))) (PO.loadM pl5 rfl (IM.has0 hhas48)) rfl ?_
 refine Pu (.int .u8 (andI .u8 (rd (sub a0.b a0.at_ (a0.b.length : Int)) (0 : Int)) (63 : Int))) (PO.and rfl rfl) rfl ?_
 refine Pu (.int .u64 (IntKind.u64.wrap (andI .u8 (rd (sub a0.b a0.at_ (a0.b.length : Int)) (0 : Int)) (63 : Int)))) (PO.conv us5 Tryd.underlying42 rfl) rfl ?_
 refine WL.eff (EO.alloc ze42 rfl) rfl ?_
 rintro _ _ _ - ⟨rfl, g50, rfl, rfl⟩
 refine WL.eff (EO.alloc ze3 rfl) rfl ?_
 rintro _ _ _ - ⟨rfl, g51, rfl, rfl⟩
 refine WL.f1 ?_
 refine WL.eff (EO.storeL (v := (.int .u64 (IntKind.u64.wrap (andI .u8 (rd (sub a0.b a0.at_ (a0.b.length : Int)) (0 : Int)) (63 : Int))))) (vl := [(.int .u64 (IntKind.u64.wrap (andI .u8 (rd (sub a0.b a0.at_ (a0.b.length : Int)) (0 : Int)) (63 : Int))))]) (arr' := [(.int .u64 (IntKind.u64.wrap (andI .u8 (rd (sub a0.b a0.at_ (a0.b.length : Int)) (0 : Int)) (63 : Int))))]) rfl sz42 rfl rfl (onesOf (Ones.cons rfl Ones.nil)) rfl rfl rfl) rfl ?_
 rintro _ _ _ - ⟨rfl, rfl⟩
 refine WL.f1 ?_
 refine WL.eff (EO.storeL (v := (.int .i64 1)) (vl := [(.int .i64 1)]) (arr' := [(.int .i64 1)]) rfl sz3 rfl rfl (onesOf (Ones.cons rfl Ones.nil)) rfl rfl rfl) rfl ?_
 rintro _ _ _ - ⟨rfl, rfl⟩
 refine Ns ?_
 refine Pu (.func (.func 115) #[] #[(pt g50 0), (pt g24 0), (pt g51 0)]) (PO.makeFunc2 (args0) (args3 (show ev _ _ = (pt g50 0) from rfl) (show ev _ _ = (pt g24 0) from rfl) (show ev _ _ = (pt g51 0) from rfl))) rfl ?_
 refine Pa (.func (.func 115) #[] #[(pt g50 0), (pt g24 0), (pt g51 0)]) rfl rfl ?_
 refine Ns ?_
 refine Pa (.int .u64 0) rfl rfl ?_
 refine Nt ?_
 obtain ⟨j55, hj55, h⟩ := bnd h
 refine WC.joinF (fun (p_ : (Int × Int × Int)) ρ' M' H' => match p_ with | (x52, x53, x54) => M.le M' ∧ [(g51, .cells #[(.int .i64 x53)] 3 (0, 0))] :: [(g50, .cells #[(.int .u64 x54)] 42 (0, 0))] :: [(g24, .cells #[(slV v0_0 1 (a0.at_).toNat ((a0.b.length : Int)).toNat)] 26 (0, 0))] :: [(g0, .cells #[v0_0, (.int .i64 a0.at_), (GV a0.err)] 151 (0, 0))] :: F = H' ∧ ρ' 0 = (pt g0 0) ∧ ρ' 1 = (.int .u64 a1) ∧ ρ' 6 = (.int .i64 (shlI .i64 (1 : Int) (shrI .u8 (rd (sub a0.b a0.at_ (a0.b.length : Int)) (0 : Int)) (6 : Int)))) ∧ ρ' 7 = (pt g50 0) ∧ ρ' 10 = (.int .u64 x52)) j55 ?_ ?_
 have h355 := h
 have h := hj55
 refine Sr ?_
 refine Pm (.int .i64 (shlI .i64 (1 : Int) (shrI .u8 (rd (sub a0.b a0.at_ (a0.b.length : Int)) (0 : Int)) (6 : Int)))) rfl rfl ?_
 refine Nt ?_
 refine WC.block ?_
 obtain ⟨j59, hj59, h⟩ := bnd h
 refine WC.joinE (fun (p_ : (Int × Int × Int)) ρ' M' H' => match p_ with | (x56, x57, x58) => M.le M' ∧ [(g51, .cells #[(.int .i64 x57)] 3 (0, 0))] :: [(g50, .cells #[(.int .u64 x58)] 42 (0, 0))] :: [(g24, .cells #[(slV v0_0 1 (a0.at_).toNat ((a0.b.length : Int)).toNat)] 26 (0, 0))] :: [(g0, .cells #[v0_0, (.int .i64 a0.at_), (GV a0.err)] 151 (0, 0))] :: F = H' ∧ ρ' 0 = (pt g0 0) ∧ ρ' 1 = (.int .u64 a1) ∧ ρ' 6 = (.int .i64 (shlI .i64 (1 : Int) (shrI .u8 (rd (sub a0.b a0.at_ (a0.b.length : Int)) (0 : Int)) (6 : Int)))) ∧ ρ' 7 = (pt g50 0) ∧ ρ' 9 = (.func (.func 115) #[] #[(pt g50 0), (pt g24 0), (pt g51 0)]) ∧ ρ' 10 = (.int .u64 x56)) j59 ?_ ?_
 have h359 := h
 have h := hj59
 refine WC.block ?_
 obtain ⟨j63, hj63, h⟩ := bnd h
 refine WC.joinE (fun (p_ : (Int × Int × Int)) ρ' M' H' => match p_ with | (x60, x61, x62) => M.le M' ∧ [(g51, .cells #[(.int .i64 x61)] 3 (0, 0))] :: [(g50, .cells #[(.int .u64 x62)] 42 (0, 0))] :: [(g24, .cells #[(slV v0_0 1 (a0.at_).toNat ((a0.b.length : Int)).toNat)] 26 (0, 0))] :: [(g0, .cells #[v0_0, (.int .i64 a0.at_), (GV a0.err)] 151 (0, 0))] :: F = H' ∧ ρ' 0 = (pt g0 0) ∧ ρ' 1 = (.int .u64 a1) ∧ ρ' 6 = (.int .i64 (shlI .i64 (1 : Int) (shrI .u8 (rd (sub a0.b a0.at_ (a0.b.length : Int)) (0 : Int)) (6 : Int)))) ∧ ρ' 7 = (pt g50 0) ∧ ρ' 9 = (.func (.func 115) #[] #[(pt g50 0), (pt g24 0), (pt g51 0)]) ∧ ρ' 10 = (.int .u64 x60)) j63 ?_ ?_
 have h363 := h
 have h := hj63
 refine WC.block ?_
 refine WC.seq ?_
 refine WC.block ?_
 refine WC.seq ?_
 refine WC.seq ?_
 refine Sr ?_
 refine Pu (.bool (decide ((shlI .i64 (1 : Int) (shrI .u8 (rd (sub a0.b a0.at_ (a0.b.length : Int)) (0 : Int)) (6 : Int))) = 8))) (PO.eql rfl rfl) rfl ?_
 refine Pa (.bool (decide ((shlI .i64 (1 : Int) (shrI .u8 (rd (sub a0.b a0.at_ (a0.b.length : Int)) (0 : Int)) (6 : Int))) = 8))) rfl rfl ?_
 refine Nt ?_
 refine WC.cond (b := decide ((shlI .i64 (1 : Int) (shrI .u8 (rd (sub a0.b a0.at_ (a0.b.length : Int)) (0 : Int)) (6 : Int))) = 8)) rfl (fun hb64 => ?_) (fun hb64 => ?_)
 have h := ite_t hb64 h
 refine WC.exit ?_
 refine WQ.thenE ?_
 refine WQ.thenE ?_
 refine WQ.blockH ?_
 refine WQ.thenC ?_
 refine Sr ?_
 refine Pm (.func (.func 115) #[] #[(pt g50 0), (pt g24 0), (pt g51 0)]) rfl rfl ?_
 obtain ⟨⟨r65, r66⟩, hr67, h⟩ := bnd h
 refine WL.f2 ?_
 refine WL.f2 ?_
 refine WL.eff (EO.callV3 (first := #[]) (cap := #[(pt g50 0), (pt g24 0), (pt g51 0)]) co115 rfl (f_wire_Reader_Num_1_ok (IntKind.u64.wrap (andI .u8 (rd (sub a0.b a0.at_ (a0.b.length : Int)) (0 : Int)) (63 : Int))) (sub a0.b a0.at_ (a0.b.length : Int)) (1 : Int) _ _ _ _ _ h23 (r65, r66) hr67) (argsV0 rfl)) rfl ?_
 rintro _ M68 _ hle69 ⟨_, ⟨rfl, rfl⟩, rfl⟩
 have h0_0 := h0_0.mono hle69
 have h23 := h23.mono hle69
 refine WL.a3 ?_
 refine Ns ?_
 refine Pm (.func (.func 115) #[] #[(pt g50 0), (pt g24 0), (pt g51 0)]) rfl rfl ?_
 obtain ⟨⟨r70, r71⟩, hr72, h⟩ := bnd h
 refine WL.f2 ?_
 refine WL.f2 ?_
 refine WL.f2 ?_
 refine WL.eff (EO.callV3 (first := #[]) (cap := #[(pt g50 0), (pt g24 0), (pt g51 0)]) co115 rfl (f_wire_Reader_Num_1_ok r65 (sub a0.b a0.at_ (a0.b.length : Int)) r66 _ _ _ _ _ h23 (r70, r71) hr72) (argsV0 rfl)) rfl ?_
 rintro _ M73 _ hle74 ⟨_, ⟨rfl, rfl⟩, rfl⟩
 have h0_0 := h0_0.mono hle74
 have h23 := h23.mono hle74
 refine WL.a3 ?_
 refine Ns ?_
 refine Pm (.func (.func 115) #[] #[(pt g50 0), (pt g24 0), (pt g51 0)]) rfl rfl ?_
 obtain ⟨⟨r75, r76⟩, hr77, h⟩ := bnd h
 refine WL.f2 ?_
 refine WL.f2 ?_
 refine WL.f2 ?_
 refine WL.eff (EO.callV3 (first := #[]) (cap := #[(pt g50 0), (pt g24 0), (pt g51 0)]) co115 rfl (f_wire_Reader_Num_1_ok r70 (sub a0.b a0.at_ (a0.b.length : Int)) r71 _ _ _ _ _ h23 (r75, r76) hr77) (argsV0 rfl)) rfl ?_
 rintro _ M78 _ hle79 ⟨_, ⟨rfl, rfl⟩, rfl⟩
 have h0_0 := h0_0.mono hle79
 have h23 := h23.mono hle79
 refine WL.a3 ?_
 refine Ns ?_
 refine Pm (.func (.func 115) #[] #[(pt g50 0), (pt g24 0), (pt g51 0)]) rfl rfl ?_
 obtain ⟨⟨r80, r81⟩, hr82, h⟩ := bnd h
 refine WL.f2 ?_
 refine WL.f2 ?_
 refine WL.f2 ?_
 refine WL.eff (EO.callV3 (first := #[]) (cap := #[(pt g50 0), (pt g24 0), (pt g51 0)]) co115 rfl (f_wire_Reader_Num_1_ok r75 (sub a0.b a0.at_ (a0.b.length : Int)) r76 _ _ _ _ _ h23 (r80, r81) hr82) (argsV0 rfl)) rfl ?_
 rintro _ M83 _ hle84 ⟨_, ⟨rfl, rfl⟩, rfl⟩
 have h0_0 := h0_0.mono hle84
 have h23 := h23.mono hle84
 refine WL.a3 ?_
 refine Nt ?_
 refine WC.region ?_
 refine Pm (.int .u64 0) rfl rfl ?_
 refine Pu (.int .u64 (IntKind.u64.wrap ((0 : Int) + (1073725440 : Int)))) (PO.add rfl rfl) rfl ?_
 refine Pa (.int .u64 (IntKind.u64.wrap ((0 : Int) + (1073725440 : Int)))) rfl rfl ?_
 refine WL.nil ?_
 refine WQ.blockN ?_
 refine WQ.f3 ?_
 refine WQ.f2 ?_
 refine WQ.f2 ?_
 refine WQ.f3 ?_
 refine WQ.thenFE h ?_
 exact ⟨(((hle69.trans hle74).trans hle79).trans hle84), rfl, (hρ 0), (hρ 1), rfl, rfl, rfl, rfl⟩
 have h := ite_f hb64 h
 refine WC.skip ?_
 refine WQ.thenC ?_
 refine WC.seq ?_
 refine Sr ?_
 refine Pu (.bool (decide ((shlI .i64 (1 : Int) (shrI .u8 (rd (sub a0.b a0.at_ (a0.b.length : Int)) (0 : Int)) (6 : Int))) = 4))) (PO.eql rfl rfl) rfl ?_
 refine Pa (.bool (decide ((shlI .i64 (1 : Int) (shrI .u8 (rd (sub a0.b a0.at_ (a0.b.length : Int)) (0 : Int)) (6 : Int))) = 4))) rfl rfl ?_
 refine Nt ?_
 refine WC.cond (b := decide ((shlI .i64 (1 : Int) (shrI .u8 (rd (sub a0.b a0.at_ (a0.b.length : Int)) (0 : Int)) (6 : Int))) = 4)) rfl (fun hb85 => ?_) (fun hb85 => ?_)
 have h := ite_t hb85 h
 refine WC.exit ?_
 refine WQ.thenE ?_
 refine WQ.thenE ?_
 refine WQ.blockM rfl ?_
 refine WQ.thenE ?_
 refine WQ.blockH ?_
 refine WQ.thenFE h ?_
 exact ⟨(IM.le.refl _), rfl, (hρ 0), (hρ 1), rfl, rfl, rfl, rfl⟩
 have h := ite_f hb85 h
 refine WC.skip ?_
 refine WQ.thenC ?_
 refine Sr ?_
 refine Pu (.bool (decide ((shlI .i64 (1 : Int) (shrI .u8 (rd (sub a0.b a0.at_ (a0.b.length : Int)) (0 : Int)) (6 : Int))) = 2))) (PO.eql rfl rfl) rfl ?_
 refine Pa (.bool (decide ((shlI .i64 (1 : Int) (shrI .u8 (rd (sub a0.b a0.at_ (a0.b.length : Int)) (0 : Int)) (6 : Int))) = 2))) rfl rfl ?_
 refine Nt ?_
 refine WC.cond (b := decide ((shlI .i64 (1 : Int) (shrI .u8 (rd (sub a0.b a0.at_ (a0.b.length : Int)) (0 : Int)) (6 : Int))) = 2)) rfl (fun hb86 => ?_) (fun hb86 => ?_)
 have h := ite_t hb86 h
 refine WC.exit ?_
 refine WQ.thenE ?_
 refine WQ.blockM rfl ?_
 refine WQ.thenE ?_
 refine WQ.blockM rfl ?_
 refine WQ.thenE ?_
 have h := KK.early h h363
 refine WQ.blockH ?_
 refine WQ.thenFE h ?_
 exact ⟨(IM.le.refl _), rfl, (hρ 0), (hρ 1), rfl, rfl, rfl, rfl⟩
 have h := ite_f hb86 h
 refine WC.skip ?_
 refine WQ.thenC ?_
 refine WC.exit ?_
 refine WQ.blockM rfl ?_
 refine WQ.thenE ?_
 refine WQ.blockM rfl ?_
 refine WQ.thenE ?_
 have h := KK.early h h363
 refine WQ.blockM rfl ?_
 refine WQ.thenE ?_
 have h := KK.early h h359
 refine WQ.blockH ?_
 obtain rfl := Option.some.inj h
 refine WQ.thenJ ?_
 exact ⟨(IM.le.refl _), rfl, (hρ 0), (hρ 1), rfl, rfl, rfl⟩
 rintro ⟨x60, x61, x62⟩ ρ63 M63 H63 rfl ⟨hle63, rfl, hs63_0, hs63_1, hs63_6, hs63_7, hs63_9, hs63_10⟩
 have h := (Sum.elim_inl _ _ _).symm.trans h
 have h23 := h23.mono hle63
 have h0_0 := h0_0.mono hle63
 refine Sr ?_
 refine Pm (.func (.func 115) #[] #[(pt g50 0), (pt g24 0), (pt g51 0)]) hs63_9 rfl ?_
 obtain ⟨⟨r87, r88⟩, hr89, h⟩ := bnd h
 refine WL.f2 ?_
 refine WL.f2 ?_
 refine WL.eff (EO.callV3 (first := #[]) (cap := #[(pt g50 0), (pt g24 0), (pt g51 0)]) co115 rfl (f_wire_Reader_Num_1_ok x62 (sub a0.b a0.at_ (a0.b.length : Int)) x61 _ _ _ _ _ h23 (r87, r88) hr89) (argsV0 rfl)) rfl ?_
 rintro _ M90 _ hle91 ⟨_, ⟨rfl, rfl⟩, rfl⟩
 have h23 := h23.mono hle91
 have h0_0 := h0_0.mono hle91
 refine WL.a3 ?_
 refine Ns ?_
 refine Pm (.func (.func 115) #[] #[(pt g50 0), (pt g24 0), (pt g51 0)]) hs63_9 rfl ?_
 obtain ⟨⟨r92, r93⟩, hr94, h⟩ := bnd h
 refine WL.f2 ?_
 refine WL.f2 ?_
 refine WL.f2 ?_
 refine WL.eff (EO.callV3 (first := #[]) (cap := #[(pt g50 0), (pt g24 0), (pt g51 0)]) co115 rfl (f_wire_Reader_Num_1_ok r87 (sub a0.b a0.at_ (a0.b.length : Int)) r88 _ _ _ _ _ h23 (r92, r93) hr94) (argsV0 rfl)) rfl ?_
 rintro _ M95 _ hle96 ⟨_, ⟨rfl, rfl⟩, rfl⟩
 have h23 := h23.mono hle96
 have h0_0 := h0_0.mono hle96
 refine WL.a3 ?_
 refine Nt ?_
 refine WC.region ?_
 refine Pm (.int .u64 x60) hs63_10 rfl ?_
 refine Pu (.int .u64 (IntKind.u64.wrap (x60 + 16320))) (PO.add rfl rfl) rfl ?_
 refine Pa (.int .u64 (IntKind.u64.wrap (x60 + 16320))) rfl rfl ?_
 refine WL.nil ?_
 refine WQ.blockN ?_
 refine WQ.f3 ?_
 refine WQ.f2 ?_
 refine WQ.f2 ?_
 refine WQ.f3 ?_
 refine WQ.thenFE h ?_
 exact ⟨((hle63.trans hle91).trans hle96), rfl, hs63_0, hs63_1, hs63_6, hs63_7, hs63_9, rfl⟩
 rintro ⟨x56, x57, x58⟩ ρ59 M59 H59 rfl ⟨hle59, rfl, hs59_0, hs59_1, hs59_6, hs59_7, hs59_9, hs59_10⟩
 have h := (Sum.elim_inl _ _ _).symm.trans h
 have h23 := h23.mono hle59
 have h0_0 := h0_0.mono hle59
 refine WC.seq ?_
 refine Sr ?_
 refine Pm (.func (.func 115) #[] #[(pt g50 0), (pt g24 0), (pt g51 0)]) hs59_9 rfl ?_
 obtain ⟨⟨r97, r98⟩, hr99, h⟩ := bnd h
 refine WL.f2 ?_
 refine WL.f2 ?_
 refine WL.eff (EO.callV3 (first := #[]) (cap := #[(pt g50 0), (pt g24 0), (pt g51 0)]) co115 rfl (f_wire_Reader_Num_1_ok x58 (sub a0.b a0.at_ (a0.b.length : Int)) x57 _ _ _ _ _ h23 (r97, r98) hr99) (argsV0 rfl)) rfl ?_
 rintro _ M100 _ hle101 ⟨_, ⟨rfl, rfl⟩, rfl⟩
 have h23 := h23.mono hle101
 have h0_0 := h0_0.mono hle101
 refine WL.a3 ?_
 refine Nt ?_
 refine WC.region ?_
 refine Pm (.int .u64 x56) hs59_10 rfl ?_
 refine Pu (.int .u64 (IntKind.u64.wrap (x56 + 64))) (PO.add rfl rfl) rfl ?_
 refine Pa (.int .u64 (IntKind.u64.wrap (x56 + 64))) rfl rfl ?_
 refine Nt ?_
 refine WC.exit ?_
 refine WQ.blockH ?_
 refine WQ.f3 ?_
 refine WQ.f2 ?_
 refine WQ.f2 ?_
 refine WQ.f3 ?_
 obtain rfl := Option.some.inj h
 refine WQ.thenJ ?_
 exact ⟨(hle59.trans hle101), rfl, hs59_0, hs59_1, hs59_6, hs59_7, rfl⟩
 obtain ⟨x52, x53, x54⟩ := j55
 rintro ρ55 M55 H55 ⟨hle55, rfl, hs55_0, hs55_1, hs55_6, hs55_7, hs55_10⟩
 have h23 := h23.mono hle55
 have h0_0 := h0_0.mono hle55
 refine WC.seq ?_
 refine WC.block ?_
 refine Sr ?_
 refine Pu (.int .u64 x54) (PO.loadB 1 pl42 hs55_7 rfl rfl) rfl ?_
 refine Pm (.int .u64 x52) hs55_10 rfl ?_
 refine Pu (.bool (decide (x54 < x52))) (PO.lss rfl rfl) rfl ?_
 refine Pa (.bool (decide (x54 < x52))) rfl rfl ?_
 refine Nt ?_
 refine WC.cond (b := decide (x54 < x52)) rfl (fun hb102 => ?_) (fun hb102 => ?_)
 have h := ite_t hb102 h
 refine Sr ?_
 refine Pm (pt g0 0) hs55_0 rfl ?_
 refine Pm (pt g0 0) hs55_0 rfl ?_
 refine Pu (pt g0 0) (PO.nilCheck rfl) rfl ?_
 refine Pu (pt g0 1) (PO.fieldAddr fo151_1 rfl rfl) rfl ?_
 refine Pu (.int .i64 a0.at_) (PO.loadB 3 pl3 rfl rfl rfl) rfl ?_
 obtain ⟨r103, hr104, h⟩ := bnd h
 refine WL.f3 ?_
 refine WL.eff (EO.call1 co87 (f_wire_Reader_fail_ok a0 (⟨#[110, 117, 109]⟩ : ByteArray) a0.at_ (5 : Int) _ _ _ h0_0 r103 hr104) (args4 rfl rfl rfl rfl)) rfl ?_
 rintro _ M105 _ hle106 ⟨_, ⟨rfl, rfl⟩, rfl⟩
 have h23 := h23.mono hle106
 have h0_0 := h0_0.mono hle106
 refine WL.a1 ?_
 refine Ns ?_
 refine Pa (.int .u64 0) rfl rfl ?_
 refine Nt ?_
 refine WC.ret ?_
 refine WQ.blockR ?_
 refine WQ.thenR ?_
 refine WQ.f1 ?_
 refine WQ.drop ?_
 refine WQ.f1 ?_
 refine WQ.drop ?_
 refine WQ.f1 ?_
 refine WQ.drop ?_
 exact WQ.returnsF h [[(g0, .cells #[v0_0, (.int .i64 a0.at_), (GV r103)] 151 (0, 0))]] rfl (results1 rfl rfl) (hle55.trans hle106) ⟨rfl, rfl⟩
 have h := ite_f hb102 h
 refine Sr ?_
 refine Pu (.int .u64 x54) (PO.loadB 1 pl42 hs55_7 rfl rfl) rfl ?_
 refine Pm (.int .u64 a1) hs55_1 rfl ?_
 refine Pu (.bool (decide (a1 < x54))) (PO.gtr rfl rfl) rfl ?_
 refine Pa (.bool (decide (a1 < x54))) rfl rfl ?_
 refine Nt ?_
 refine WC.cond (b := decide (a1 < x54)) rfl (fun hb107 => ?_) (fun hb107 => ?_)
 have h := ite_t hb107 h
 refine Sr ?_
 refine Pm (pt g0 0) hs55_0 rfl ?_
 refine Pm (pt g0 0) hs55_0 rfl ?_
 refine Pu (pt g0 0) (PO.nilCheck rfl) rfl ?_
 refine Pu (pt g0 1) (PO.fieldAddr fo151_1 rfl rfl) rfl ?_
 refine Pu (.int .i64 a0.at_) (PO.loadB 3 pl3 rfl rfl rfl) rfl ?_
 obtain ⟨r108, hr109, h⟩ := bnd h
 refine WL.f3 ?_
 refine WL.eff (EO.call1 co87 (f_wire_Reader_fail_ok a0 (⟨#[110, 117, 109]⟩ : ByteArray) a0.at_ (6 : Int) _ _ _ h0_0 r108 hr109) (args4 rfl rfl rfl rfl)) rfl ?_
 rintro _ M110 _ hle111 ⟨_, ⟨rfl, rfl⟩, rfl⟩
 have h23 := h23.mono hle111
 have h0_0 := h0_0.mono hle111
 refine WL.a1 ?_
 refine Ns ?_
 refine Pa (.int .u64 0) rfl rfl ?_
 refine Nt ?_
 refine WC.ret ?_
 refine WQ.blockR ?_
 refine WQ.thenR ?_
 refine WQ.f1 ?_
 refine WQ.drop ?_
 refine WQ.f1 ?_
 refine WQ.drop ?_
 refine WQ.f1 ?_
 refine WQ.drop ?_
 exact WQ.returnsF h [[(g0, .cells #[v0_0, (.int .i64 a0.at_), (GV r108)] 151 (0, 0))]] rfl (results1 rfl rfl) (hle55.trans hle111) ⟨rfl, rfl⟩
 have h := ite_f hb107 h
 refine WC.skip ?_
 refine WQ.blockN ?_
 refine WQ.thenC ?_
 refine Sr ?_
 refine Pm (pt g0 0) hs55_0 rfl ?_
 refine Pu (pt g0 0) (PO.nilCheck rfl) rfl ?_
 refine Pu (pt g0 1) (PO.fieldAddr fo151_1 rfl rfl) rfl ?_
 refine Pu (.int .i64 a0.at_) (PO.loadB 3 pl3 rfl rfl rfl) rfl ?_
 refine Pm (.int .i64 (shlI .i64 (1 : Int) (shrI .u8 (rd (sub a0.b a0.at_ (a0.b.length : Int)) (0 : Int)) (6 : Int)))) hs55_6 rfl ?_
 refine Pu (.int .i64 (IntKind.i64.wrap (a0.at_ + (shlI .i64 (1 : Int) (shrI .u8 (rd (sub a0.b a0.at_ (a0.b.length : Int)) (0 : Int)) (6 : Int)))))) (PO.add rfl rfl) rfl ?_
 refine Pu (pt g0 0) (PO.nilCheck rfl) rfl ?_
 refine Pu (pt g0 1) (PO.fieldAddr fo151_1 rfl rfl) rfl ?_
 refine WL.f3 ?_
 refine WL.eff (EO.storeL (v := (.int .i64 (IntKind.i64.wrap (a0.at_ + (shlI .i64 (1 : Int) (shrI .u8 (rd (sub a0.b a0.at_ (a0.b.length : Int)) (0 : Int)) (6 : Int))))))) (vl := [(.int .i64 (IntKind.i64.wrap (a0.at_ + (shlI .i64 (1 : Int) (shrI .u8 (rd (sub a0.b a0.at_ (a0.b.length : Int)) (0 : Int)) (6 : Int))))))]) (arr' := [v0_0, (.int .i64 (IntKind.i64.wrap (a0.at_ + (shlI .i64 (1 : Int) (shrI .u8 (rd (sub a0.b a0.at_ (a0.b.length : Int)) (0 : Int)) (6 : Int)))))), (GV a0.err)]) rfl sz3 rfl rfl (onesOf (Ones.cons rfl Ones.nil)) rfl rfl rfl) rfl ?_
 rintro _ _ _ - ⟨rfl, rfl⟩
 refine Ns ?_
 refine Pu (.int .u64 x54) (PO.loadB 2 pl42 hs55_7 rfl rfl) rfl ?_
 refine Pa (.int .u64 x54) rfl rfl ?_
 refine Nt ?_
 refine WC.ret ?_
 refine WQ.f1 ?_
 refine WQ.drop ?_
 refine WQ.f1 ?_
 refine WQ.drop ?_
 refine WQ.f1 ?_
 refine WQ.drop ?_
 exact WQ.returnsF h [[(g0, .cells #[v0_0, (.int .i64 (IntKind.i64.wrap (a0.at_ + (shlI .i64 (1 : Int) (shrI .u8 (rd (sub a0.b a0.at_ (a0.b.length : Int)) (0 : Int)) (6 : Int)))))), (GV a0.err)] 151 (0, 0))]] rfl (results1 rfl rfl) hle55 ⟨rfl, rfl⟩
 exact WT.no
 exact WT.no

noncomputable def f_wire_Reader_Int (a0 : T_wire_Reader) (a1 : Int) : Option (Int × Int × GErr) :=
  ((f_wire_Reader_Num a0 (IntKind.u64.wrap (if a1 < (0 : Int) then (0 : Int) else a1))).bind fun (r21, r22, r23) => (some (IntKind.i64.wrap r21, r22, r23)))
def f_wire_Reader_Int_post (a0 : T_wire_Reader) (a1 : Int) (v0_0 : Value) (g0 : Nat) : (Int × Int × GErr) → Value → IM → HL → Prop :=
  fun (p_ : (Int × Int × GErr)) (v : Value) (M' : IM) (H' : HL) => match p_ with | (r0, r1, r2) => (.int .i64 r0) = v ∧ H' = [[(g0, .cells #[v0_0, (.int .i64 r1), (GV r2)] 151 (0, 0))]]
theorem f_wire_Reader_Int_ok (a0 : T_wire_Reader) (a1 : Int) (M : IM) (v0_0 : Value) (g0 : Nat) (h0_0 : RS (Kd.int .u8) M v0_0 a0.b) (res : (Int × Int × GErr)) (h : f_wire_Reader_Int a0 a1 = some res) :
    Tri Tryd.prog 60 #[(pt g0 0), (.int .i64 a1)] M [[(g0, .cells #[v0_0, (.int .i64 a0.at_), (GV a0.err)] 151 (0, 0))]] (f_wire_Reader_Int_post a0 a1 v0_0 g0 res) := by
 unfold f_wire_Reader_Int at h
 refine Tri.enter (fn := Tryd.f60) Tryd.func60 rfl (Nat.le_of_ble_eq_true rfl) ?_
 intro F ρ hρ
 refine Sr ?_
 refine Pa (.int .i64 0) rfl rfl ?_
 refine Ns ?_
 refine Pm (pt g0 0) (hρ 0) rfl ?_
 refine Pm (.int .i64 a1) (hρ 1) rfl ?_
 refine Pu (.int .i64 (if a1 < 0 then (0 : Int) else a1)) (PO.max rfl rfl) rfl ?_
 refine Pu (.int .u64 (IntKind.u64.wrap (if a1 < 0 then (0 : Int) else a1))) (PO.conv us3 Tryd.underlying42 rfl) rfl ?_
 obtain ⟨⟨r21, r22, r23⟩, hr24, h⟩ := bnd h
 refine WL.eff (EO.call1 co92 (f_wire_Reader_Num_ok a0 (IntKind.u64.wrap (if a1 < 0 then (0 : Int) else a1)) _ _ _ h0_0 (r21, r22, r23) hr24) (args2 rfl rfl)) rfl ?_
 rintro _ M25 _ hle26 ⟨_, ⟨rfl, rfl⟩, rfl⟩
 have h0_0 := h0_0.mono hle26
 refine WL.a1 ?_
 refine Pu (.int .i64 (IntKind.i64.wrap r21)) (PO.conv us42 Tryd.underlying3 rfl) rfl ?_
 refine Pa (.int .i64 (IntKind.i64.wrap r21)) rfl rfl ?_
 refine Nt ?_
 refine WC.ret ?_
 exact WQ.returnsF h [[(g0, .cells #[v0_0, (.int .i64 r22), (GV r23)] 151 (0, 0))]] rfl (results1 rfl rfl) hle26 ⟨rfl, rfl⟩

noncomputable def f_wire_Reader_Err (a0 : T_wire_Reader) : Option GErr :=
  (some a0.err)
def f_wire_Reader_Err_post (a0 : T_wire_Reader) (v0_0 : Value) (g0 : Nat) : GErr → Value → IM → HL → Prop :=
  fun (r0 : GErr) (v : Value) (M' : IM) (H' : HL) => (GV r0) = v ∧ H' = [[(g0, .cells #[v0_0, (.int .i64 a0.at_), (GV a0.err)] 151 (0, 0))]]
theorem f_wire_Reader_Err_ok (a0 : T_wire_Reader) (M : IM) (v0_0 : Value) (g0 : Nat) (h0_0 : RS (Kd.int .u8) M v0_0 a0.b) (res : GErr) (h : f_wire_Reader_Err a0 = some res) :
    Tri Tryd.prog 61 #[(pt g0 0)] M [[(g0, .cells #[v0_0, (.int .i64 a0.at_), (GV a0.err)] 151 (0, 0))]] (f_wire_Reader_Err_post a0 v0_0 g0 res) := by
 unfold f_wire_Reader_Err at h
 refine Tri.enter (fn := Tryd.f61) Tryd.func61 rfl (Nat.le_of_ble_eq_true rfl) ?_
 intro F ρ hρ
 refine Sr ?_
 refine Pa (GV GErr.nil) rfl rfl ?_
 refine Ns ?_
 refine Pm (pt g0 0) (hρ 0) rfl ?_
 refine Pu (pt g0 0) (PO.nilCheck rfl) rfl ?_
 refine Pu (pt g0 2) (PO.fieldAddr fo151_2 rfl rfl) rfl ?_
 refine Pu (GV a0.err) (PO.loadB 0 pl28 rfl rfl rfl) rfl ?_
 refine Pa (GV a0.err) rfl rfl ?_
 refine Nt ?_
 refine WC.ret ?_
 exact WQ.returnsF h [[(g0, .cells #[v0_0, (.int .i64 a0.at_), (GV a0.err)] 151 (0, 0))]] rfl (results1 rfl rfl) (IM.le.refl _) ⟨rfl, rfl⟩

noncomputable def f_api_Fault_Unwrap (a0 : T_api_Fault) : Option GErr :=
  (some a0.Err)
def f_api_Fault_Unwrap_post (a0 : T_api_Fault) : GErr → Value → IM → HL → Prop :=
  fun (r0 : GErr) (v : Value) (M' : IM) (H' : HL) => (GV r0) = v ∧ H' = []
theorem f_api_Fault_Unwrap_ok (a0 : T_api_Fault) (M : IM) (res : GErr) (h : f_api_Fault_Unwrap a0 = some res) :
    Tri Tryd.prog 139 #[(a89_ a0)] M [] (f_api_Fault_Unwrap_post a0 res) := by
 unfold f_api_Fault_Unwrap at h
 refine Tri.enter (fn := Tryd.f139) Tryd.func139 rfl (Nat.le_of_ble_eq_true rfl) ?_
 intro F ρ hρ
 refine Sr ?_
 refine WL.eff (EO.box (cs := (l89 a0).toArray) (congrArg Value.cells (asE (a89_ a0) (hρ 0)))) rfl ?_
 rintro _ _ _ - ⟨rfl, g21, rfl, rfl⟩
 refine Pa (GV GErr.nil) rfl rfl ?_
 refine Ns ?_
 refine Pu (pt g21 2) (PO.fieldAddr fo89_2 rfl rfl) rfl ?_
 refine Pu (GV a0.Err) (PO.loadB 0 pl28 rfl rfl rfl) rfl ?_
 refine Pa (GV a0.Err) rfl rfl ?_
 refine Nt ?_
 refine WC.ret ?_
 refine WQ.drop ?_
 exact WQ.returnsF h [] rfl (results1 rfl rfl) (IM.le.refl _) ⟨rfl, rfl⟩


end Go.Proofs.YtjiffdgidodebaaDoor.G
