/- Go functions: what they come to, and that they do. Printed by a program of the session (gen). -/
import Derived.Test.YtjiffdgidodebaaDoorFF
import Derived.Test.YtjiffdgidodebaaDoorF9
import Derived.Test.YtjiffdgidodebaaDoorKShar
set_option linter.unusedVariables false
set_option linter.unusedSimpArgs false
set_option maxHeartbeats 8000000
set_option maxRecDepth 100000
namespace Go.Proofs.YtjiffdgidodebaaDoor.G
open Go Go.KK

noncomputable def f_ref04_Scan_l0 (a0 : (List Int)) (s_ : ((List T_api_Frame) × Int)) : Option (((List T_api_Frame) × Int) ⊕ (((List T_api_Frame) × Int) ⊕ ((List T_api_Frame) × Int × Int × (List Int) × Int × Int × ByteArray × Int))) :=
  match s_ with
  | (x26, x27) =>
    (if (decide (x27 ≤ (a0.length : Int))) = true then (grd (0 ≤ x27 ∧ x27 ≤ (a0.length : Int) ∧ (a0.length : Int) ≤ (a0.length : Int)) ((f_ref04_Next (sub a0 x27 (a0.length : Int))).bind fun (r41 : T_ref04_Found) => (if (decide (r41.Size = (0 : Int))) = true then (some (Sum.inr (Sum.inr (x26, x27, r41.F.Kind, r41.F.Body, r41.Size, r41.Code, r41.Op, r41.At)))) else (grd (x26.length + [r41.F].length ≤ 274877906944) (some (Sum.inl (x26 ++ [r41.F], IntKind.i64.wrap (x27 + r41.Size)))))))) else (some (Sum.inr (Sum.inl (x26, x27)))))
noncomputable def f_ref04_Scan (a0 : (List Int)) : Option ((List T_api_Frame) × Int × T_ref04_Found) :=
  ((((iter (f_ref04_Scan_l0 a0) ([], (0 : Int))).bind (Sum.elim (fun (x28, x29) => (some (Sum.inl (x28, x29)))) (fun (x30, x31, x32, x33, x34, x35, x36, x37) => (((some (x30, x31, (⟨(⟨x32, x33⟩ : T_api_Frame), x34, x35, x36, x37⟩ : T_ref04_Found)))).bind fun r => some (Sum.inr r))))) : Option (((List T_api_Frame) × Int) ⊕ ((List T_api_Frame) × Int × T_ref04_Found))).bind (Sum.elim (fun (x22, x23) => (some (x22, x23, (⟨(⟨(0 : Int), []⟩ : T_api_Frame), (0 : Int), (0 : Int), (⟨#[]⟩ : ByteArray), (0 : Int)⟩ : T_ref04_Found)))) some))
def f_ref04_Scan_post (a0 : (List Int)) (v0 : Value) : ((List T_api_Frame) × Int × T_ref04_Found) → Value → IM → HL → Prop :=
  fun (p_ : ((List T_api_Frame) × Int × T_ref04_Found)) (v : Value) (M' : IM) (H' : HL) => match p_ with | (r0, r1, r2) => ∃ vz0 cz0 vz2_0_1, (.tuple #[vz0, (.int .i64 r1), (.agg #[(.int .i64 r2.F.Kind), vz2_0_1, (.int .i64 r2.Size), (.int .i64 r2.Code), (.string r2.Op), (.int .i64 r2.At)])]) = v ∧ H' = [cz0] ∧ OwnS kd_api_Frame M' vz0 r0 cz0 ∧ RS (Kd.int .u8) M' vz2_0_1 r2.F.Body
theorem f_ref04_Scan_ok (a0 : (List Int)) (M : IM) (v0 : Value) (h0 : RS (Kd.int .u8) M v0 a0) (res : ((List T_api_Frame) × Int × T_ref04_Found)) (h : f_ref04_Scan a0 = some res) :
    Tri Tryd.prog 25 #[v0] M [] (f_ref04_Scan_post a0 v0 res) := by
 unfold f_ref04_Scan at h
 refine Tri.enter (fn := Tryd.f25) Tryd.func25 rfl (Nat.le_of_ble_eq_true rfl) ?_
 intro F ρ hρ
 refine Sr ?_
 refine Pa (.slice none 0 0) rfl rfl ?_
 refine Pa (.int .i64 0) rfl rfl ?_
 refine WL.eff (EO.alloc ze55 rfl) rfl ?_
 rintro _ _ _ - ⟨rfl, g21, rfl, rfl⟩
 refine Ns ?_
 refine Pa (.slice none 0 0) rfl rfl ?_
 refine Ns ?_
 refine Pa (.int .i64 0) rfl rfl ?_
 refine Nt ?_
 obtain ⟨j24, hj24, h⟩ := bnd h
 refine WC.joinE (fun (p_ : ((List T_api_Frame) × Int)) ρ' M' H' => match p_ with | (x22, x23) => ∃ vx22 cx22, M.le M' ∧ [(g21, .cells z55_.toArray 55 (0, 0))] :: cx22 :: F = H' ∧ ρ' 4 = (pt g21 0) ∧ ρ' 5 = vx22 ∧ ρ' 6 = (.int .i64 x23) ∧ OwnS kd_api_Frame M' vx22 x22 cx22) j24 ?_ ?_
 have h324 := h
 have h := hj24
 refine WC.block ?_
 refine WC.e0 ?_
 refine WC.f1 ?_
 obtain ⟨e25, he25, hK25⟩ := bnd h
 clear h
 refine WC.loop he25 (fun (p_ : ((List T_api_Frame) × Int)) ρ' M' H' => match p_ with | (x26, x27) => ∃ vx26 cx26, M.le M' ∧ [(g21, .cells z55_.toArray 55 (0, 0))] :: cx26 :: F = H' ∧ ρ' 0 = v0 ∧ ρ' 4 = (pt g21 0) ∧ ρ' 5 = vx26 ∧ ρ' 6 = (.int .i64 x27) ∧ OwnS kd_api_Frame M' vx26 x26 cx26) ?_ ?_
 exact ⟨(.slice none 0 0), [], (IM.le.refl _), rfl, (hρ 0), rfl, rfl, rfl, (OwnS.nil _ _)⟩
 rintro ⟨x26, x27⟩ o25 ρ25 M25 H25 h ⟨vx26, cx26, hle25, rfl, hs25_0, hs25_4, hs25_5, hs25_6, hx26⟩
 unfold f_ref04_Scan_l0 at h
 have h0 := h0.mono hle25
 refine WC.seq ?_
 refine Sr ?_
 refine Pm (.int .i64 x27) hs25_6 rfl ?_
 refine Pm v0 hs25_0 rfl ?_
 refine Pu (.int .i64 (a0.length : Int)) (PO.lenS Tryd.underlying26 rfl h0.len) rfl ?_
 refine Pu (.bool (decide (x27 ≤ (a0.length : Int)))) (PO.leq rfl rfl) rfl ?_
 refine Nt ?_
 refine WC.cond (b := decide (x27 ≤ (a0.length : Int))) rfl (fun hb38 => ?_) (fun hb38 => ?_)
 have h := ite_t hb38 h
 refine WC.skip ?_
 refine WQ.thenC ?_
 refine WC.block ?_
 refine Sr ?_
 refine Pm v0 hs25_0 rfl ?_
 refine Pm (.int .i64 x27) hs25_6 rfl ?_
 obtain ⟨hg39, h⟩ := grd_i h
 have h40 := h0.sub hg39.1 hg39.2.1 hg39.2.2
 refine Pu (slV v0 1 (x27).toNat ((a0.length : Int)).toNat) (PO.slice (n := a0.length) (l := (x27).toNat) (h := ((a0.length : Int)).toNat) Tryd.underlying26 sz5 rfl h0.len h0.cap ⟨_, _, rfl, hg39.1, rfl⟩ (boundN_ rfl) (Int.toNat_le_toNat hg39.2.1) (toNat_le_len hg39.2.2)) rfl ?_
 obtain ⟨r41, hr42, h⟩ := bnd h
 refine WL.eff (EO.call0 co23 (f_ref04_Next_ok (sub a0 x27 (a0.length : Int)) _ _ h40 r41 hr42) (args1 rfl)) rfl ?_
 rintro _ M43 _ hle44 ⟨_, ⟨vq45_0_1, rfl, rfl, hq45_0_1⟩, rfl⟩
 have h0 := h0.mono hle44
 have hx26 := hx26.mono hle44
 have h40 := h40.mono hle44
 refine WL.a0 ?_
 refine WL.eff (EO.alloc ze55 rfl) rfl ?_
 rintro _ _ _ - ⟨rfl, g46, rfl, rfl⟩
 refine WL.eff (EO.storeL (v := (a55_ r41 vq45_0_1)) (vl := (l55 r41 vq45_0_1)) (arr' := (l55 r41 vq45_0_1)) rfl sz55 rfl rfl (onesOf (Ones.cons rfl (Ones.cons (RS.one hq45_0_1) (Ones.cons rfl (Ones.cons rfl (Ones.cons rfl (Ones.cons rfl Ones.nil))))))) rfl rfl rfl) rfl ?_
 rintro _ _ _ - ⟨rfl, rfl⟩
 refine Nt ?_
 refine WC.seq ?_
 refine Sr ?_
 refine Pu (pt g46 2) (PO.fieldAddr fo55_1 rfl rfl) rfl ?_
 refine Pu (.int .i64 r41.Size) (PO.loadB 0 pl3 rfl rfl rfl) rfl ?_
 refine Pu (.bool (decide (r41.Size = 0))) (PO.eql rfl rfl) rfl ?_
 refine Nt ?_
 refine WC.cond (b := decide (r41.Size = 0)) rfl (fun hb47 => ?_) (fun hb47 => ?_)
 have h := ite_t hb47 h
 refine WC.seq ?_
 refine WC.draw [0, 0, 0, 1, 11, 31] (.pure 0 (.pure 1 (.pure 2 (.pure 3 (.pure 4 (.alt 5 .done .none)))))) mixed (by kernel_rfl) ?_
 refine Tp vx26 rfl (PO.move hs25_5) rfl ?_
 refine Tp (.int .i64 x27) rfl (PO.move hs25_6) rfl ?_
 refine Tp (a55_ r41 vq45_0_1) rfl (PO.loadBA (cs := (l55 r41 vq45_0_1)) 0 ag55 sz55 rfl rfl rfl) rfl ?_
 refine Tp vx26 rfl (PO.assign rfl) rfl ?_
 refine Tp (.int .i64 x27) rfl (PO.assign rfl) rfl ?_
 refine WT.f1 ?_
 refine WT.alt rfl (EO.storeL (v := (a55_ r41 vq45_0_1)) (vl := (l55 r41 vq45_0_1)) (arr' := (l55 r41 vq45_0_1)) rfl sz55 hs25_4 rfl (onesOf (Ones.cons rfl (Ones.cons (RS.one hq45_0_1) (Ones.cons rfl (Ones.cons rfl (Ones.cons rfl (Ones.cons rfl Ones.nil))))))) rfl rfl rfl) rfl ?_ ?_
 rintro _ _ _ - ⟨rfl, rfl⟩
 refine ⟨(StabL.anc rfl (StabL.anc rfl (StabL.anc rfl (StabL.anc rfl (StabL.anc rfl trivial))))), ?_⟩
 refine WT.fin ?_
 refine WQ.thenC ?_
 refine WC.ret ?_
 refine WQ.thenR ?_
 refine WQ.blockR ?_
 refine WQ.leaveR (Sum.inr (x26, x27, r41.F.Kind, r41.F.Body, r41.Size, r41.Code, r41.Op, r41.At)) (Option.some.inj h).symm (fun heq25 => ?_)
 subst heq25
 have h := (elimR hK25)
 refine WQ.blockR ?_
 refine WQ.thenR ?_
 have h := KK.early h h324
 refine WQ.f1 ?_
 refine WQ.drop ?_
 exact WQ.returnsD h [cx26] (fun _ hs => hs.drop) (resultsLN rfl (RVs.cons (RV.tmp rfl) (RVs.cons (RV.tmp rfl) (RVs.cons (RV.cellA (cs := (l55 r41 vq45_0_1)) 0 ag55 sz55 hs25_4 rfl rfl) RVs.nil)))) (hle25.trans hle44) ⟨vx26, cx26, vq45_0_1, rfl, rfl, hx26, hq45_0_1⟩
 exact WT.no
 have h := ite_f hb47 h
 refine WC.skip ?_
 refine WQ.thenC ?_
 refine Sr ?_
 refine Pm vx26 hs25_5 rfl ?_
 refine Pu (pt g46 0) (PO.fieldAddr fo55_0 rfl rfl) rfl ?_
 refine Pu (.agg #[(.int .i64 r41.F.Kind), vq45_0_1]) (PO.loadBA (cs := [(.int .i64 r41.F.Kind), vq45_0_1]) 0 ag40 sz40 rfl rfl rfl) rfl ?_
 refine WL.eff (EO.buildSliceL (cl := [(.int .i64 r41.F.Kind), vq45_0_1]) Tryd.underlying22 iz40 rfl (Parts.cons (congrArg Value.cells (show ev _ _ = (.agg #[(.int .i64 r41.F.Kind), vq45_0_1]) from rfl)) Parts.nil) rfl) rfl ?_
 rintro _ _ _ - ⟨rfl, g48, rfl, rfl⟩
 have h50 : OwnS kd_api_Frame M43 (.slice (some ⟨g48, 0, none⟩) 1 1) [r41.F] [(g48, .cells #[(.int .i64 r41.F.Kind), vq45_0_1] 40 (0, 0))] := OwnS.rows (css := [[(.int .i64 r41.F.Kind), vq45_0_1]]) (Rows.cons (kd_api_Frame_mk (x := r41.F) hq45_0_1) Rows.nil) rfl rfl
 obtain ⟨hg54, h⟩ := grd_i h
 refine WL.f3 ?_
 refine WL.eff (EO.append (dd := kd_api_Frame) (xs := x26) (ys := [r41.F]) Tryd.underlying22 Tryd.underlying22 in40 rfl (appB (by decide) hg54) (by decide) rfl rfl hx26 (h50.src 1 rfl)) rfl ?_
 rintro v53 _ _ - ⟨rfl, c51, rfl, h52⟩
 refine Pa v53 rfl rfl ?_
 refine Nt ?_
 refine WC.region ?_
 refine Pm (.int .i64 x27) hs25_6 rfl ?_
 refine Pu (pt g46 2) (PO.fieldAddr fo55_1 rfl rfl) rfl ?_
 refine Pu (.int .i64 r41.Size) (PO.loadB 2 pl3 rfl rfl rfl) rfl ?_
 refine Pu (.int .i64 (IntKind.i64.wrap (x27 + r41.Size))) (PO.add rfl rfl) rfl ?_
 refine Pa (.int .i64 (IntKind.i64.wrap (x27 + r41.Size))) rfl rfl ?_
 refine WL.nil ?_
 refine WQ.blockN ?_
 refine WQ.f1 ?_
 refine WQ.drop ?_
 refine WQ.f1 ?_
 refine WQ.drop ?_
 refine WQ.f1 ?_
 refine WQ.again (x26 ++ [r41.F], IntKind.i64.wrap (x27 + r41.Size)) (Option.some.inj h).symm ?_
 exact ⟨v53, c51, (hle25.trans hle44), rfl, hs25_0, hs25_4, rfl, rfl, h52⟩
 have h := ite_f hb38 h
 refine WC.exit ?_
 refine WQ.thenE ?_
 refine WQ.leaveE (Sum.inl (x26, x27)) (Option.some.inj h).symm (fun heq25 => ?_)
 subst heq25
 have h := elimL hK25
 refine WQ.blockH ?_
 refine WQ.thenFE h ?_
 exact ⟨vx26, cx26, hle25, rfl, hs25_4, hs25_5, hs25_6, hx26⟩
 rintro ⟨x22, x23⟩ ρ24 M24 H24 rfl ⟨vx22, cx22, hle24, rfl, hs24_4, hs24_5, hs24_6, hx22⟩
 have h := (Sum.elim_inl _ _ _).symm.trans h
 refine Sr ?_
 refine Pm vx22 hs24_5 rfl ?_
 refine Pm (.int .i64 x23) hs24_6 rfl ?_
 refine Pu (.agg z55_.toArray) (PO.buildL (cl := z55_) ze55 fp55 Parts.nil rfl) rfl ?_
 refine Pa vx22 rfl rfl ?_
 refine Pa (.int .i64 x23) rfl rfl ?_
 refine WL.eff (EO.storeL (v := (.agg z55_.toArray)) (vl := z55_) (arr' := z55_) rfl sz55 hs24_4 rfl (onesOf (Ones.cons rfl (Ones.cons rfl (Ones.cons rfl (Ones.cons rfl (Ones.cons rfl (Ones.cons rfl Ones.nil))))))) rfl rfl rfl) rfl ?_
 rintro _ _ _ - ⟨rfl, rfl⟩
 refine Nt ?_
 refine WC.ret ?_
 exact WQ.returnsD h [cx22] (fun _ hs => hs.drop) (resultsLN rfl (RVs.cons (RV.tmp rfl) (RVs.cons (RV.tmp rfl) (RVs.cons (RV.cellA (cs := z55_) 0 ag55 sz55 hs24_4 rfl rfl) RVs.nil)))) hle24 ⟨vx22, cx22, (.slice none 0 0), rfl, rfl, hx22, RS.nil _ _⟩

noncomputable def f_law04_FrameStreams_l0 (a0 : (List Int)) (a1 : (List Int)) (s_ : ((List T_api_Frame) × Int × Int × (List Int) × Int × GErr)) : Option (((List T_api_Frame) × Int × Int × (List Int) × Int × GErr) ⊕ ((List T_api_Frame) × Int × (List Int) × Int × GErr)) :=
  match s_ with
  | (x38, x39, x40, x41, x42, x43) =>
    (((if (decide (x40 < (a1.length : Int))) = true then (some (decide (x39 < (a0.length : Int)))) else (some false)) : Option Bool).bind fun (x49 : Bool) => (if x49 = true then (grd (0 ≤ x40 ∧ x40 < a1.length) (((if (decide ((IntKind.i64.wrap ((a0.length : Int) - x39)) < ((IntKind.i64.wrap (rd a1 x40)).tmod (97 : Int)))) = true then (some (IntKind.i64.wrap ((a0.length : Int) - x39))) else (some ((IntKind.i64.wrap (rd a1 x40)).tmod (97 : Int)))) : Option Int).bind fun (x60 : Int) => (grd (0 ≤ x39 ∧ x39 ≤ IntKind.i64.wrap (x39 + x60) ∧ IntKind.i64.wrap (x39 + x60) ≤ (a0.length : Int)) ((f_frame_Stream_Feed (⟨x41, x42, x43⟩ : T_frame_Stream) (sub a0 x39 (IntKind.i64.wrap (x39 + x60)))).bind fun (r65, r66, r67, r68) => (grd (x38.length + r65.length ≤ 274877906944) (some (Sum.inl (x38 ++ r65, IntKind.i64.wrap (x39 + x60), IntKind.i64.wrap (x40 + (1 : Int)), r66, r67, r68)))))))) else (some (Sum.inr (x38, x39, x41, x42, x43)))))
noncomputable def f_law04_FrameStreams (a0 : (List Int)) (a1 : (List Int)) : Option Bool :=
  (((if (decide ((1200 : Int) < (a0.length : Int))) = true then (some true) else (some (decide ((60 : Int) < (a1.length : Int))))) : Option Bool).bind fun (x21 : Bool) => (if x21 = true then ((f_law04_works).bind fun (r25 : Bool) => (some r25)) else ((((iter (f_law04_FrameStreams_l0 a0 a1) ([], (0 : Int), (0 : Int), [], (0 : Int), GErr.nil)).bind (fun (x44, x45, x46, x47, x48) => (some (x44, x45, x46, x47, x48)))) : Option ((List T_api_Frame) × Int × (List Int) × Int × GErr)).bind fun (x31, x32, x33, x34, x35) => (grd (0 ≤ x32 ∧ x32 ≤ (a0.length : Int) ∧ (a0.length : Int) ≤ (a0.length : Int)) ((f_frame_Stream_Feed (⟨x33, x34, x35⟩ : T_frame_Stream) (sub a0 x32 (a0.length : Int))).bind fun (r84, r85, r86, r87) => (grd (x31.length + r84.length ≤ 274877906944) ((f_ref04_Scan a0).bind fun (r99, r100, r101) => ((f_ref04_Same (x31 ++ r84) r99).bind fun (r109 : Bool) => (if (!r109) = true then (some false) else (if (decide (r101.Code = (0 : Int))) = true then ((((f_frame_Stream_Err (⟨r85, r86, r87⟩ : T_frame_Stream)).bind fun (r125 : GErr) => (if r125.isNil = true then ((f_frame_Stream_Left (⟨r85, r86, r87⟩ : T_frame_Stream)).bind fun (r132 : Int) => (if (decide (r132 = (IntKind.i64.wrap ((a0.length : Int) - r100)))) = true then ((f_law04_works).bind fun (r138 : Bool) => (some r138)) else (some false))) else (some false))) : Option Bool).bind fun (x122 : Bool) => (some x122)) else ((((f_frame_Stream_Err (⟨r85, r86, r87⟩ : T_frame_Stream)).bind fun (r146 : GErr) => ((f_law04_wrong r146 r101.Code r101.Op r100).bind fun (r151 : Bool) => (if r151 = true then ((f_frame_Stream_Err (⟨r85, r86, r87⟩ : T_frame_Stream)).bind fun (r158 : GErr) => ((f_fault_Under r158 (⟨#[102, 114, 97, 109, 101]⟩ : ByteArray)).bind fun (r163 : Bool) => (if r163 = true then ((f_frame_Stream_Left (⟨r85, r86, r87⟩ : T_frame_Stream)).bind fun (r170 : Int) => (if (decide (r170 = (0 : Int))) = true then ((f_law04_works).bind fun (r176 : Bool) => (some r176)) else (some false))) else (some false)))) else (some false)))) : Option Bool).bind fun (x143 : Bool) => (some x143))))))))))))
def f_law04_FrameStreams_post (a0 : (List Int)) (a1 : (List Int)) (v0 v1 : Value) : Bool → Value → IM → HL → Prop :=
  fun (r0 : Bool) (v : Value) (M' : IM) (H' : HL) => (.bool r0) = v ∧ H' = []
theorem f_law04_FrameStreams_ok (a0 : (List Int)) (a1 : (List Int)) (M : IM) (v0 v1 : Value) (h0 : RS (Kd.int .u8) M v0 a0) (h1 : RS (Kd.int .u16) M v1 a1) (hE : Env M) (res : Bool) (h : f_law04_FrameStreams a0 a1 = some res) :
    Tri Tryd.prog 7 #[v0, v1] M [] (f_law04_FrameStreams_post a0 a1 v0 v1 res) := by
 unfold f_law04_FrameStreams at h
 refine Tri.enter (fn := Tryd.f7) Tryd.func7 rfl (Nat.le_of_ble_eq_true rfl) ?_
 intro F ρ hρ
 refine Sr ?_
 refine Pa (.bool false) rfl rfl ?_
 refine Nt ?_
 refine WC.seq ?_
 obtain ⟨x21, hj22, h⟩ := bnd h
 refine WC.joinF (fun (x21 : Bool) ρ' M' H' => M.le M' ∧ F = H' ∧ ρ' 0 = v0 ∧ ρ' 1 = v1 ∧ ρ' 20 = (.bool x21)) x21 ?_ ?_
 have h322 := h
 have h := hj22
 refine WC.region ?_
 refine Pm v0 (hρ 0) rfl ?_
 refine Pu (.int .i64 (a0.length : Int)) (PO.lenS Tryd.underlying26 rfl h0.len) rfl ?_
 refine Pu (.bool (decide ((1200 : Int) < (a0.length : Int)))) (PO.gtr rfl rfl) rfl ?_
 refine Pm (.bool (decide ((1200 : Int) < (a0.length : Int)))) rfl rfl ?_
 rcases Bool.eq_false_or_eq_true (decide ((1200 : Int) < (a0.length : Int))) with hb23 | hb23
 have h := ite_t hb23 h
 iterate 3 refine Of 16 rfl rfl hb23 rfl ?_
 refine Pu (.bool true) (PO.pickT rfl hb23 rfl) rfl ?_
 refine WL.nil ?_
 obtain rfl := Option.some.inj h
 refine WQ.thenJ ?_
 exact ⟨(IM.le.refl _), rfl, (hρ 0), (hρ 1), rfl⟩
 have h := ite_f hb23 h
 refine On 16 rfl rfl hb23 ?_
 refine Pm v1 (hρ 1) rfl ?_
 refine On 16 rfl rfl hb23 ?_
 refine Pu (.int .i64 (a1.length : Int)) (PO.lenS Tryd.underlying59 rfl h1.len) rfl ?_
 refine On 16 rfl rfl hb23 ?_
 refine Pu (.bool (decide ((60 : Int) < (a1.length : Int)))) (PO.gtr rfl rfl) rfl ?_
 refine Pu (.bool (decide ((60 : Int) < (a1.length : Int)))) (PO.pickF rfl hb23 rfl) rfl ?_
 refine WL.nil ?_
 obtain rfl := Option.some.inj h
 refine WQ.thenJ ?_
 exact ⟨(IM.le.refl _), rfl, (hρ 0), (hρ 1), rfl⟩
 rintro ρ22 M22 H22 ⟨hle22, rfl, hs22_0, hs22_1, hs22_20⟩
 have h0 := h0.mono hle22
 have h1 := h1.mono hle22
 have hE := hE.mono hle22
 refine WC.cond (b := x21) hs22_20 (fun hb24 => ?_) (fun hb24 => ?_)
 have h := ite_t hb24 h
 refine Sr ?_
 obtain ⟨r25, hr26, h⟩ := bnd h
 refine WL.eff (EO.call0 co11 (f_law04_works_ok _ hE r25 hr26) (args0)) rfl ?_
 rintro _ M27 _ hle28 ⟨_, ⟨rfl, rfl⟩, rfl⟩
 have h0 := h0.mono hle28
 have h1 := h1.mono hle28
 have hE := hE.mono hle28
 refine WL.a0 ?_
 refine Pa (.bool r25) rfl rfl ?_
 refine Nt ?_
 refine WC.ret ?_
 refine WQ.thenR ?_
 exact WQ.returnsF h [] rfl (results1 rfl rfl) (hle22.trans hle28) ⟨rfl, rfl⟩
 have h := ite_f hb24 h
 refine WC.skip ?_
 refine WQ.thenC ?_
 refine Sr ?_
 refine Pu (.agg #[(.slice none 0 0), (.int .i64 0), (GV GErr.nil)]) (PO.buildL (cl := [(.slice none 0 0), (.int .i64 0), (GV GErr.nil)]) ze33 fp33 Parts.nil rfl) rfl ?_
 refine WL.eff (EO.box (cs := #[(.slice none 0 0), (.int .i64 0), (GV GErr.nil)]) (congrArg Value.cells (show ev _ _ = (.agg #[(.slice none 0 0), (.int .i64 0), (GV GErr.nil)]) from rfl))) rfl ?_
 rintro _ _ _ - ⟨rfl, g30, rfl, rfl⟩
 refine Pa (pt g30 0) rfl rfl ?_
 refine Ns ?_
 refine Pa (.slice none 0 0) rfl rfl ?_
 refine Ns ?_
 refine Pa (.int .i64 0) rfl rfl ?_
 refine Nt ?_
 obtain ⟨j36, hj36, h⟩ := bnd h
 refine WC.joinF (fun (p_ : ((List T_api_Frame) × Int × (List Int) × Int × GErr)) ρ' M' H' => match p_ with | (x31, x32, x33, x34, x35) => ∃ vx31 cx31 vx33 cx33, M22.le M' ∧ [(g30, .cells #[vx33, (.int .i64 x34), (GV x35)] 33 (0, 0))] :: cx31 :: cx33 :: F = H' ∧ ρ' 0 = v0 ∧ ρ' 5 = (pt g30 0) ∧ ρ' 6 = vx31 ∧ ρ' 7 = (.int .i64 x32) ∧ OwnS kd_api_Frame M' vx31 x31 cx31 ∧ OwnSh (Kd.int .u8) M' vx33 x33 cx33) j36 ?_ ?_
 have h336 := h
 have h := hj36
 refine Sr ?_
 refine Pa (.int .i64 0) rfl rfl ?_
 refine Nt ?_
 refine WC.block ?_
 refine WC.e0 ?_
 refine WC.e0 ?_
 refine WC.f1 ?_
 refine WC.f2 ?_
 obtain ⟨e37, he37, hK37⟩ := bnd h
 clear h
 refine WC.loop he37 (fun (p_ : ((List T_api_Frame) × Int × Int × (List Int) × Int × GErr)) ρ' M' H' => match p_ with | (x38, x39, x40, x41, x42, x43) => ∃ vx38 cx38 vx41 cx41, M22.le M' ∧ [(g30, .cells #[vx41, (.int .i64 x42), (GV x43)] 33 (0, 0))] :: cx38 :: cx41 :: F = H' ∧ ρ' 0 = v0 ∧ ρ' 1 = v1 ∧ ρ' 5 = (pt g30 0) ∧ ρ' 6 = vx38 ∧ ρ' 7 = (.int .i64 x39) ∧ ρ' 8 = (.int .i64 x40) ∧ OwnS kd_api_Frame M' vx38 x38 cx38 ∧ OwnSh (Kd.int .u8) M' vx41 x41 cx41) ?_ ?_
 exact ⟨(.slice none 0 0), [], (.slice none 0 0), [], (IM.le.refl _), rfl, hs22_0, hs22_1, rfl, rfl, rfl, rfl, (OwnS.nil _ _), (OwnSh.nil _ _)⟩
 rintro ⟨x38, x39, x40, x41, x42, x43⟩ o37 ρ37 M37 H37 h ⟨vx38, cx38, vx41, cx41, hle37, rfl, hs37_0, hs37_1, hs37_5, hs37_6, hs37_7, hs37_8, hx38, hx41⟩
 unfold f_law04_FrameStreams_l0 at h
 have h0 := h0.mono hle37
 have h1 := h1.mono hle37
 have hE := hE.mono hle37
 refine WC.seq ?_
 obtain ⟨x49, hj50, h⟩ := bnd h
 refine WC.joinF (fun (x49 : Bool) ρ' M' H' => M37.le M' ∧ [(g30, .cells #[vx41, (.int .i64 x42), (GV x43)] 33 (0, 0))] :: cx38 :: cx41 :: F = H' ∧ ρ' 0 = v0 ∧ ρ' 1 = v1 ∧ ρ' 5 = (pt g30 0) ∧ ρ' 6 = vx38 ∧ ρ' 7 = (.int .i64 x39) ∧ ρ' 8 = (.int .i64 x40) ∧ ρ' 33 = (.bool x49)) x49 ?_ ?_
 have h350 := h
 have h := hj50
 refine WC.region ?_
 refine Pm (.int .i64 x40) hs37_8 rfl ?_
 refine Pm v1 hs37_1 rfl ?_
 refine Pu (.int .i64 (a1.length : Int)) (PO.lenS Tryd.underlying59 rfl h1.len) rfl ?_
 refine Pu (.bool (decide (x40 < (a1.length : Int)))) (PO.lss rfl rfl) rfl ?_
 refine Pm (.bool (decide (x40 < (a1.length : Int)))) rfl rfl ?_
 rcases Bool.eq_false_or_eq_true (decide (x40 < (a1.length : Int))) with hb51 | hb51
 have h := ite_t hb51 h
 refine On 28 rfl rfl hb51 ?_
 refine Pm (.int .i64 x39) hs37_7 rfl ?_
 refine On 28 rfl rfl hb51 ?_
 refine Pm v0 hs37_0 rfl ?_
 refine On 28 rfl rfl hb51 ?_
 refine Pu (.int .i64 (a0.length : Int)) (PO.lenS Tryd.underlying26 rfl h0.len) rfl ?_
 refine On 28 rfl rfl hb51 ?_
 refine Pu (.bool (decide (x39 < (a0.length : Int)))) (PO.lss rfl rfl) rfl ?_
 refine Pu (.bool (decide (x39 < (a0.length : Int)))) (PO.pickT rfl hb51 rfl) rfl ?_
 refine WL.nil ?_
 obtain rfl := Option.some.inj h
 refine WQ.thenJ ?_
 exact ⟨(IM.le.refl _), rfl, hs37_0, hs37_1, hs37_5, hs37_6, hs37_7, hs37_8, rfl⟩
 have h := ite_f hb51 h
 iterate 4 refine Of 28 rfl rfl hb51 rfl ?_
 refine Pu (.bool false) (PO.pickF rfl hb51 rfl) rfl ?_
 refine WL.nil ?_
 obtain rfl := Option.some.inj h
 refine WQ.thenJ ?_
 exact ⟨(IM.le.refl _), rfl, hs37_0, hs37_1, hs37_5, hs37_6, hs37_7, hs37_8, rfl⟩
 rintro ρ50 M50 H50 ⟨hle50, rfl, hs50_0, hs50_1, hs50_5, hs50_6, hs50_7, hs50_8, hs50_33⟩
 have h0 := h0.mono hle50
 have h1 := h1.mono hle50
 have hx38 := hx38.mono hle50
 have hx41 := hx41.mono hle50
 have hE := hE.mono hle50
 refine WC.cond (b := x49) hs50_33 (fun hb52 => ?_) (fun hb52 => ?_)
 have h := ite_t hb52 h
 refine WC.skip ?_
 refine WQ.thenC ?_
 refine WC.seq ?_
 refine WC.block ?_
 refine Sr ?_
 refine Pm v1 hs50_1 rfl ?_
 refine Pm (.int .i64 x40) hs50_8 rfl ?_
 obtain ⟨hg53, h⟩ := grd_i h
 obtain ⟨p54, cs55, hat56, hrc57, hhas58⟩ := h1.at hg53.1 hg53.2 (by decide)
 obtain rfl := hrc57
 refine Pu (.pointer (some p54)) (PO.indexAddr (n := a1.length) Tryd.underlying59 sz23 rfl rfl hg53.1 hg53.2 hat56) rfl ?_
 refine Pu (.int .u16 (rd a1 x40)) (PO.loadM pl23 rfl (IM.has0 hhas58)) rfl ?_
 refine Pu (.int .i64 (IntKind.i64.wrap (rd a1 x40))) (PO.conv us23 Tryd.underlying3 rfl) rfl ?_
 refine Pu (.int .i64 ((IntKind.i64.wrap (rd a1 x40)).tmod (97 : Int))) (PO.rem rfl rfl (by decide)) rfl ?_
 refine Pa (.int .i64 ((IntKind.i64.wrap (rd a1 x40)).tmod (97 : Int))) rfl rfl ?_
 refine Nt ?_
 obtain ⟨x60, hj61, h⟩ := bnd h
 refine WC.joinF (fun (x60 : Int) ρ' M' H' => M50.le M' ∧ [(g30, .cells #[vx41, (.int .i64 x42), (GV x43)] 33 (0, 0))] :: cx38 :: cx41 :: F = H' ∧ ρ' 0 = v0 ∧ ρ' 1 = v1 ∧ ρ' 5 = (pt g30 0) ∧ ρ' 6 = vx38 ∧ ρ' 7 = (.int .i64 x39) ∧ ρ' 8 = (.int .i64 x40) ∧ ρ' 9 = (.int .i64 x60)) x60 ?_ ?_
 have h361 := h
 have h := hj61
 refine Sr ?_
 refine Pm (.int .i64 ((IntKind.i64.wrap (rd a1 x40)).tmod (97 : Int))) rfl rfl ?_
 refine Pm v0 hs50_0 rfl ?_
 refine Pu (.int .i64 (a0.length : Int)) (PO.lenS Tryd.underlying26 rfl h0.len) rfl ?_
 refine Pm (.int .i64 x39) hs50_7 rfl ?_
 refine Pu (.int .i64 (IntKind.i64.wrap ((a0.length : Int) - x39))) (PO.sub rfl rfl) rfl ?_
 refine Pu (.bool (decide ((IntKind.i64.wrap ((a0.length : Int) - x39)) < ((IntKind.i64.wrap (rd a1 x40)).tmod (97 : Int))))) (PO.gtr rfl rfl) rfl ?_
 refine Nt ?_
 refine WC.cond (b := decide ((IntKind.i64.wrap ((a0.length : Int) - x39)) < ((IntKind.i64.wrap (rd a1 x40)).tmod (97 : Int)))) rfl (fun hb62 => ?_) (fun hb62 => ?_)
 have h := ite_t hb62 h
 refine WC.region ?_
 refine Pm v0 hs50_0 rfl ?_
 refine Pu (.int .i64 (a0.length : Int)) (PO.lenS Tryd.underlying26 rfl h0.len) rfl ?_
 refine Pm (.int .i64 x39) hs50_7 rfl ?_
 refine Pu (.int .i64 (IntKind.i64.wrap ((a0.length : Int) - x39))) (PO.sub rfl rfl) rfl ?_
 refine Pa (.int .i64 (IntKind.i64.wrap ((a0.length : Int) - x39))) rfl rfl ?_
 refine WL.nil ?_
 obtain rfl := Option.some.inj h
 refine WQ.thenJ ?_
 exact ⟨(IM.le.refl _), rfl, hs50_0, hs50_1, hs50_5, hs50_6, hs50_7, hs50_8, rfl⟩
 have h := ite_f hb62 h
 refine WC.skip ?_
 obtain rfl := Option.some.inj h
 refine WQ.thenJ ?_
 exact ⟨(IM.le.refl _), rfl, hs50_0, hs50_1, hs50_5, hs50_6, hs50_7, hs50_8, rfl⟩
 rintro ρ61 M61 H61 ⟨hle61, rfl, hs61_0, hs61_1, hs61_5, hs61_6, hs61_7, hs61_8, hs61_9⟩
 have h0 := h0.mono hle61
 have h1 := h1.mono hle61
 have hx38 := hx38.mono hle61
 have hx41 := hx41.mono hle61
 have hE := hE.mono hle61
 refine Sr ?_
 refine Pm vx38 hs61_6 rfl ?_
 refine Pm (pt g30 0) hs61_5 rfl ?_
 refine Pm v0 hs61_0 rfl ?_
 refine Pm (.int .i64 x39) hs61_7 rfl ?_
 refine Pm (.int .i64 x39) hs61_7 rfl ?_
 refine Pm (.int .i64 x60) hs61_9 rfl ?_
 refine Pu (.int .i64 (IntKind.i64.wrap (x39 + x60))) (PO.add rfl rfl) rfl ?_
 obtain ⟨hg63, h⟩ := grd_i h
 have h64 := h0.sub hg63.1 hg63.2.1 hg63.2.2
 refine Pu (slV v0 1 (x39).toNat (IntKind.i64.wrap (x39 + x60)).toNat) (PO.slice (n := a0.length) (l := (x39).toNat) (h := (IntKind.i64.wrap (x39 + x60)).toNat) Tryd.underlying26 sz5 rfl h0.len h0.cap ⟨_, _, rfl, hg63.1, rfl⟩ ⟨_, _, rfl, (Int.le_trans hg63.1 hg63.2.1), rfl⟩ (Int.toNat_le_toNat hg63.2.1) (toNat_le_len hg63.2.2)) rfl ?_
 obtain ⟨⟨r65, r66, r67, r68⟩, hr69, h⟩ := bnd h
 refine WL.f2 ?_
 refine WL.f1 ?_
 refine WL.eff (EO.call2 co13 (f_frame_Stream_Feed_ok (⟨x41, x42, x43⟩ : T_frame_Stream) (sub a0 x39 (IntKind.i64.wrap (x39 + x60))) _ _ _ _ _ hx41 h64 hE (r65, r66, r67, r68) hr69) (args2 rfl rfl)) rfl ?_
 rintro _ M70 _ hle71 ⟨_, ⟨v72, c74, vq75, cq75, rfl, rfl, h73, hq75⟩, rfl⟩
 have h0 := h0.mono hle71
 have h1 := h1.mono hle71
 have hx38 := hx38.mono hle71
 have h64 := h64.mono hle71
 have hx41 := hx41.mono hle71
 have hE := hE.mono hle71
 refine WL.a3 ?_
 obtain ⟨hg79, h⟩ := grd_i h
 refine WL.f3 ?_
 refine WL.eff (EO.append (dd := kd_api_Frame) (xs := x38) (ys := r65) Tryd.underlying22 Tryd.underlying22 in40 rfl (appB (by decide) hg79) (by decide) rfl rfl hx38 (hq75.src 3 rfl)) rfl ?_
 rintro v78 _ _ - ⟨rfl, c76, rfl, h77⟩
 refine Pa v78 rfl rfl ?_
 refine Nt ?_
 refine WC.region ?_
 refine Pm (.int .i64 x39) hs61_7 rfl ?_
 refine Pm (.int .i64 x60) hs61_9 rfl ?_
 refine Pu (.int .i64 (IntKind.i64.wrap (x39 + x60))) (PO.add rfl rfl) rfl ?_
 refine Pa (.int .i64 (IntKind.i64.wrap (x39 + x60))) rfl rfl ?_
 refine WL.nil ?_
 refine WQ.blockN ?_
 refine WQ.thenC ?_
 refine WC.region ?_
 refine Pm (.int .i64 x40) hs61_8 rfl ?_
 refine Pu (.int .i64 (IntKind.i64.wrap (x40 + 1))) (PO.add rfl rfl) rfl ?_
 refine Pa (.int .i64 (IntKind.i64.wrap (x40 + 1))) rfl rfl ?_
 refine WL.nil ?_
 refine WQ.f3 ?_
 refine WQ.drop ?_
 refine WQ.f2 ?_
 refine WQ.f1 ?_
 refine WQ.f2 ?_
 refine WQ.again (x38 ++ r65, IntKind.i64.wrap (x39 + x60), IntKind.i64.wrap (x40 + 1), r66, r67, r68) (Option.some.inj h).symm ?_
 exact ⟨v78, c76, v72, c74, (((hle37.trans hle50).trans hle61).trans hle71), rfl, hs61_0, hs61_1, hs61_5, rfl, rfl, rfl, h77, h73⟩
 have h := ite_f hb52 h
 refine WC.exit ?_
 refine WQ.thenE ?_
 refine WQ.leaveE (x38, x39, x41, x42, x43) (Option.some.inj h).symm (fun heq37 => ?_)
 subst heq37
 have h := hK37
 refine WQ.blockH ?_
 obtain rfl := Option.some.inj h
 refine WQ.thenJ ?_
 exact ⟨vx38, cx38, vx41, cx41, (hle37.trans hle50), rfl, hs50_0, hs50_5, hs50_6, hs50_7, hx38, hx41⟩
 obtain ⟨x31, x32, x33, x34, x35⟩ := j36
 rintro ρ36 M36 H36 ⟨vx31, cx31, vx33, cx33, hle36, rfl, hs36_0, hs36_5, hs36_6, hs36_7, hx31, hx33⟩
 have h0 := h0.mono hle36
 have hE := hE.mono hle36
 refine Sr ?_
 refine Pm vx31 hs36_6 rfl ?_
 refine Pm (pt g30 0) hs36_5 rfl ?_
 refine Pm v0 hs36_0 rfl ?_
 refine Pm (.int .i64 x32) hs36_7 rfl ?_
 obtain ⟨hg82, h⟩ := grd_i h
 have h83 := h0.sub hg82.1 hg82.2.1 hg82.2.2
 refine Pu (slV v0 1 (x32).toNat ((a0.length : Int)).toNat) (PO.slice (n := a0.length) (l := (x32).toNat) (h := ((a0.length : Int)).toNat) Tryd.underlying26 sz5 rfl h0.len h0.cap ⟨_, _, rfl, hg82.1, rfl⟩ (boundN_ rfl) (Int.toNat_le_toNat hg82.2.1) (toNat_le_len hg82.2.2)) rfl ?_
 obtain ⟨⟨r84, r85, r86, r87⟩, hr88, h⟩ := bnd h
 refine WL.f2 ?_
 refine WL.f1 ?_
 refine WL.eff (EO.call2 co13 (f_frame_Stream_Feed_ok (⟨x33, x34, x35⟩ : T_frame_Stream) (sub a0 x32 (a0.length : Int)) _ _ _ _ _ hx33 h83 hE (r84, r85, r86, r87) hr88) (args2 rfl rfl)) rfl ?_
 rintro _ M89 _ hle90 ⟨_, ⟨v91, c93, vq94, cq94, rfl, rfl, h92, hq94⟩, rfl⟩
 have h0 := h0.mono hle90
 have hx31 := hx31.mono hle90
 have h83 := h83.mono hle90
 have hx33 := hx33.mono hle90
 have hE := hE.mono hle90
 refine WL.a3 ?_
 obtain ⟨hg98, h⟩ := grd_i h
 refine WL.f3 ?_
 refine WL.eff (EO.append (dd := kd_api_Frame) (xs := x31) (ys := r84) Tryd.underlying22 Tryd.underlying22 in40 rfl (appB (by decide) hg98) (by decide) rfl rfl hx31 (hq94.src 3 rfl)) rfl ?_
 rintro v97 _ _ - ⟨rfl, c95, rfl, h96⟩
 refine Pa v97 rfl rfl ?_
 refine Ns ?_
 refine Pm v0 hs36_0 rfl ?_
 obtain ⟨⟨r99, r100, r101⟩, hr102, h⟩ := bnd h
 refine WL.eff (EO.call0 co25 (f_ref04_Scan_ok a0 _ _ h0 (r99, r100, r101) hr102) (args1 rfl)) rfl ?_
 rintro _ M103 _ hle104 ⟨_, ⟨vq105, cq105, vq107_0_1, rfl, rfl, hq105, hq107_0_1⟩, rfl⟩
 have h0 := h0.mono hle104
 have h96 := h96.mono hle104
 have h92 := h92.mono hle104
 have hE := hE.mono hle104
 refine WL.a1 ?_
 refine Pm (.tuple #[vq105, (.int .i64 r100), (a55_ r101 vq107_0_1)]) rfl rfl ?_
 refine Pu vq105 (PO.extract rfl rfl) rfl ?_
 refine Pu (.int .i64 r100) (PO.extract rfl rfl) rfl ?_
 refine Pu (a55_ r101 vq107_0_1) (PO.extract rfl rfl) rfl ?_
 refine WL.eff (EO.alloc ze55 rfl) rfl ?_
 rintro _ _ _ - ⟨rfl, g108, rfl, rfl⟩
 refine Pa vq105 rfl rfl ?_
 refine Pa (.int .i64 r100) rfl rfl ?_
 refine WL.eff (EO.storeL (v := (a55_ r101 vq107_0_1)) (vl := (l55 r101 vq107_0_1)) (arr' := (l55 r101 vq107_0_1)) rfl sz55 rfl rfl (onesOf (Ones.cons rfl (Ones.cons (RS.one hq107_0_1) (Ones.cons rfl (Ones.cons rfl (Ones.cons rfl (Ones.cons rfl Ones.nil))))))) rfl rfl rfl) rfl ?_
 rintro _ _ _ - ⟨rfl, rfl⟩
 refine Nt ?_
 refine WC.seq ?_
 refine Sr ?_
 refine Pm v97 rfl rfl ?_
 refine Pm vq105 rfl rfl ?_
 obtain ⟨r109, hr110, h⟩ := bnd h
 refine WL.f1 ?_
 refine WL.f2 ?_
 refine WL.eff (EO.call2 co14 (Tri.lend h96.excl fun w0_ H0_ hs0_ => (Tri.lend hq105.excl fun w1_ H1_ hs1_ => (f_ref04_Same_ok (x31 ++ r84) r99 _ _ _ ((h96.rs hs0_).mono (IM.le_add _ _)) ((hq105.mono (IM.le_add _ _)).rs hs1_) r109 hr110))) (args2 rfl rfl)) rfl ?_
 rintro _ _ _ hle112 ⟨_, ⟨Ml117, Hl118, hll119, rfl, rfl, ⟨Ml114, Hl115, hll116, rfl, rfl, ⟨rfl, rfl⟩⟩⟩, rfl⟩
 have h0 := h0.mono hle112
 have h96 := h96.mono hle112
 have hq105 := hq105.mono hle112
 have h92 := h92.mono hle112
 have hq107_0_1 := hq107_0_1.mono hle112
 have hE := hE.mono hle112
 refine WL.a2 ?_
 refine Pu (.bool (!r109)) (PO.not rfl) rfl ?_
 refine Nt ?_
 refine WC.cond (b := !r109) rfl (fun hb120 => ?_) (fun hb120 => ?_)
 have h := ite_t hb120 h
 refine Sr ?_
 refine Pa (.bool false) rfl rfl ?_
 refine Nt ?_
 refine WC.ret ?_
 refine WQ.thenR ?_
 refine WQ.drop ?_
 refine WQ.drop ?_
 refine WQ.drop ?_
 refine WQ.drop ?_
 refine WQ.drop ?_
 refine WQ.drop ?_
 exact WQ.returnsF h [] rfl (results1 rfl rfl) ((((hle22.trans hle36).trans hle90).trans hle104).trans hle112) ⟨rfl, rfl⟩
 have h := ite_f hb120 h
 refine WC.skip ?_
 refine WQ.thenC ?_
 refine WC.seq ?_
 refine Sr ?_
 refine Pu (pt g108 3) (PO.fieldAddr fo55_2 rfl rfl) rfl ?_
 refine Pu (.int .i64 r101.Code) (PO.loadB 2 pl47 rfl rfl rfl) rfl ?_
 refine Pu (.bool (decide (r101.Code = 0))) (PO.eql rfl rfl) rfl ?_
 refine Nt ?_
 refine WC.cond (b := decide (r101.Code = 0)) rfl (fun hb121 => ?_) (fun hb121 => ?_)
 have h := ite_t hb121 h
 obtain ⟨x122, hj123, h⟩ := bnd h
 refine WC.joinF (fun (x122 : Bool) ρ' M' H' => ((Ml114.minus cq105).minus c95).le M' ∧ [(g108, .cells (l55 r101 vq107_0_1).toArray 55 (0, 0))] :: [(g30, .cells #[v91, (.int .i64 r86), (GV r87)] 33 (0, 0))] :: c93 :: F = H' ∧ ρ' 4 = (.bool x122)) x122 ?_ ?_
 have h3123 := h
 have h := hj123
 refine WC.region ?_
 refine Pm (pt g30 0) hs36_5 rfl ?_
 obtain ⟨r125, hr126, h⟩ := bnd h
 refine WL.know (fun _ hs => h92.rs (hs.front 4 rfl)) (fun hf124 => ?_)
 refine WL.f3 ?_
 refine WL.eff (EO.call1 co15 (f_frame_Stream_Err_ok (⟨r85, r86, r87⟩ : T_frame_Stream) _ _ _ hf124 r125 hr126) (args1 rfl)) rfl ?_
 rintro _ M127 _ hle128 ⟨_, ⟨rfl, rfl⟩, rfl⟩
 have h0 := h0.mono hle128
 have h92 := h92.mono hle128
 have hq107_0_1 := hq107_0_1.mono hle128
 have hE := hE.mono hle128
 refine WL.a1 ?_
 refine Pu (.bool r125.isNil) (PO.errNil Tryd.underlying28 rfl) rfl ?_
 refine Pm (.bool r125.isNil) rfl rfl ?_
 rcases Bool.eq_false_or_eq_true (r125.isNil) with hb130 | hb130
 have h := ite_t hb130 h
 refine On 88 rfl rfl hb130 ?_
 refine Pm (pt g30 0) hs36_5 rfl ?_
 refine On 88 rfl rfl hb130 ?_
 obtain ⟨r132, hr133, h⟩ := bnd h
 refine WL.know (fun _ hs => h92.rs (hs.front 4 rfl)) (fun hf131 => ?_)
 refine WL.eff (EO.call1 co16 (f_frame_Stream_Left_ok (⟨r85, r86, r87⟩ : T_frame_Stream) _ _ _ hf131 r132 hr133) (args1 rfl)) rfl ?_
 rintro _ M134 _ hle135 ⟨_, ⟨rfl, rfl⟩, rfl⟩
 have h0 := h0.mono hle135
 have h92 := h92.mono hle135
 have hq107_0_1 := hq107_0_1.mono hle135
 have hE := hE.mono hle135
 refine WL.a1 ?_
 refine On 88 rfl rfl hb130 ?_
 refine Pm v0 hs36_0 rfl ?_
 refine On 88 rfl rfl hb130 ?_
 refine Pu (.int .i64 (a0.length : Int)) (PO.lenS Tryd.underlying26 rfl h0.len) rfl ?_
 refine On 88 rfl rfl hb130 ?_
 refine Pm (.int .i64 r100) rfl rfl ?_
 refine On 88 rfl rfl hb130 ?_
 refine Pu (.int .i64 (IntKind.i64.wrap ((a0.length : Int) - r100))) (PO.sub rfl rfl) rfl ?_
 refine On 88 rfl rfl hb130 ?_
 refine Pu (.bool (decide (r132 = (IntKind.i64.wrap ((a0.length : Int) - r100))))) (PO.eql rfl rfl) rfl ?_
 refine Pu (.bool (decide (r132 = (IntKind.i64.wrap ((a0.length : Int) - r100))))) (PO.pickT rfl hb130 rfl) rfl ?_
 refine Pm (.bool (decide (r132 = (IntKind.i64.wrap ((a0.length : Int) - r100))))) rfl rfl ?_
 rcases Bool.eq_false_or_eq_true (decide (r132 = (IntKind.i64.wrap ((a0.length : Int) - r100)))) with hb137 | hb137
 have h := ite_t hb137 h
 refine On 97 rfl rfl hb137 ?_
 obtain ⟨r138, hr139, h⟩ := bnd h
 refine WL.eff (EO.call0 co11 (f_law04_works_ok _ hE r138 hr139) (args0)) rfl ?_
 rintro _ M140 _ hle141 ⟨_, ⟨rfl, rfl⟩, rfl⟩
 have h0 := h0.mono hle141
 have h92 := h92.mono hle141
 have hq107_0_1 := hq107_0_1.mono hle141
 have hE := hE.mono hle141
 refine WL.a0 ?_
 refine Pu (.bool r138) (PO.pickT rfl hb137 rfl) rfl ?_
 refine Pa (.bool r138) rfl rfl ?_
 refine WL.nil ?_
 refine WQ.f1 ?_
 refine WQ.drop ?_
 refine WQ.f1 ?_
 refine WQ.drop ?_
 refine WQ.f3 ?_
 refine WQ.drop ?_
 refine WQ.f2 ?_
 refine WQ.f1 ?_
 refine WQ.f2 ?_
 obtain rfl := Option.some.inj h
 refine WQ.thenJ ?_
 exact ⟨((hle128.trans hle135).trans hle141), rfl, rfl⟩
 have h := ite_f hb137 h
 refine Of 97 rfl rfl hb137 rfl ?_
 refine Pu (.bool false) (PO.pickF rfl hb137 rfl) rfl ?_
 refine Pa (.bool false) rfl rfl ?_
 refine WL.nil ?_
 refine WQ.f1 ?_
 refine WQ.drop ?_
 refine WQ.f1 ?_
 refine WQ.drop ?_
 refine WQ.f3 ?_
 refine WQ.drop ?_
 refine WQ.f2 ?_
 refine WQ.f1 ?_
 refine WQ.f2 ?_
 obtain rfl := Option.some.inj h
 refine WQ.thenJ ?_
 exact ⟨(hle128.trans hle135), rfl, rfl⟩
 have h := ite_f hb130 h
 iterate 7 refine Of 88 rfl rfl hb130 rfl ?_
 refine Pu (.bool false) (PO.pickF rfl hb130 rfl) rfl ?_
 refine Pm (.bool false) rfl rfl ?_
 refine Of 97 rfl rfl rfl rfl ?_
 refine Pu (.bool false) (PO.pickF rfl rfl rfl) rfl ?_
 refine Pa (.bool false) rfl rfl ?_
 refine WL.nil ?_
 refine WQ.f1 ?_
 refine WQ.drop ?_
 refine WQ.f1 ?_
 refine WQ.drop ?_
 refine WQ.f3 ?_
 refine WQ.drop ?_
 refine WQ.f2 ?_
 refine WQ.f1 ?_
 refine WQ.f2 ?_
 obtain rfl := Option.some.inj h
 refine WQ.thenJ ?_
 exact ⟨hle128, rfl, rfl⟩
 rintro ρ123 M123 H123 ⟨hle123, rfl, hs123_4⟩
 have hq107_0_1 := hq107_0_1.mono hle123
 have h92 := h92.mono hle123
 have hE := hE.mono hle123
 refine WC.ret ?_
 refine WQ.thenR ?_
 refine WQ.drop ?_
 refine WQ.drop ?_
 refine WQ.drop ?_
 exact WQ.returnsF h [] rfl (results1 rfl hs123_4) (((((hle22.trans hle36).trans hle90).trans hle104).trans hle112).trans hle123) ⟨rfl, rfl⟩
 have h := ite_f hb121 h
 refine WC.skip ?_
 refine WQ.thenC ?_
 obtain ⟨x143, hj144, h⟩ := bnd h
 refine WC.joinF (fun (x143 : Bool) ρ' M' H' => ((Ml114.minus cq105).minus c95).le M' ∧ [(g108, .cells (l55 r101 vq107_0_1).toArray 55 (0, 0))] :: [(g30, .cells #[v91, (.int .i64 r86), (GV r87)] 33 (0, 0))] :: c93 :: F = H' ∧ ρ' 4 = (.bool x143)) x143 ?_ ?_
 have h3144 := h
 have h := hj144
 refine WC.draw [0, 1, 0, 4, 0, 16, 0, 127, 255, 511, 1023, 2047, 4095, 8191, 16383, 32767, 65535, 131071, 262143, 524287, 1048575, 2097151] (.pure 0 (.pure 2 (.pure 3 (.pure 4 (.pure 5 (.pure 6 (.alt 1 (.alt 7 (.pure 8 (.pure 9 (.alt 10 (.alt 11 (.pure 12 (.pure 13 (.pure 14 (.alt 15 (.pure 16 (.pure 17 (.pure 18 (.alt 19 (.pure 20 (.pure 21 .done)) .none)))) .none)))) .none) .none))) .none) .none))))))) mixed (by kernel_rfl) ?_
 refine Tp (pt g30 0) rfl (PO.move hs36_5) rfl ?_
 refine Tp (pt g108 3) rfl (PO.fieldAddr fo55_2 rfl rfl) rfl ?_
 refine Tp (.int .i64 r101.Code) rfl (PO.loadB 2 pl47 rfl rfl rfl) rfl ?_
 refine Tp (pt g108 4) rfl (PO.fieldAddr fo55_3 rfl rfl) rfl ?_
 refine Tp (.string r101.Op) rfl (PO.loadB 2 pl9 rfl rfl rfl) rfl ?_
 refine Tp (.int .i64 r100) rfl (PO.move rfl) rfl ?_
 obtain ⟨r146, hr147, h⟩ := bnd h
 refine WT.know (fun _ hs => h92.rs (hs.front 4 rfl)) (fun hf145 => ?_)
 refine WT.f3 ?_
 refine WT.alt rfl (EO.call1 co15 (f_frame_Stream_Err_ok (⟨r85, r86, r87⟩ : T_frame_Stream) _ _ _ hf145 r146 hr147) (args1 rfl)) rfl ?_ ?_
 rintro _ M148 _ hle149 ⟨_, ⟨rfl, rfl⟩, rfl⟩
 have h92 := h92.mono hle149
 have hq107_0_1 := hq107_0_1.mono hle149
 have hE := hE.mono hle149
 refine ⟨(StabL.st (StabA.of rfl (PO.move rfl) rfl) (StabL.st (StabA.of rfl (PO.loadB 3 pl9 rfl rfl rfl) rfl) (StabL.st (StabA.of rfl (PO.fieldAddr fo55_3 rfl rfl) rfl) (StabL.st (StabA.of rfl (PO.loadB 3 pl47 rfl rfl rfl) rfl) (StabL.st (StabA.of rfl (PO.fieldAddr fo55_2 rfl rfl) rfl) (StabL.anc rfl trivial)))))), ?_⟩
 refine WT.a1 ?_
 obtain ⟨r151, hr152, h⟩ := bnd h
 refine WT.alt rfl (EO.call0 co24 (f_law04_wrong_ok r146 r101.Code r101.Op r100 _ hE r151 hr152) (args4 rfl rfl rfl rfl)) rfl ?_ ?_
 rintro _ M153 _ hle154 ⟨_, ⟨rfl, rfl⟩, rfl⟩
 have h92 := h92.mono hle154
 have hq107_0_1 := hq107_0_1.mono hle154
 have hE := hE.mono hle154
 refine ⟨(StabL.anc rfl (StabL.anc rfl (StabL.anc rfl (StabL.anc rfl (StabL.anc rfl (StabL.anc rfl trivial)))))), ?_⟩
 refine WT.a0 ?_
 refine Tp (.bool r151) rfl (PO.move rfl) rfl ?_
 rcases Bool.eq_false_or_eq_true (r151) with hb156 | hb156
 have h := ite_t hb156 h
 refine Tn (pt g30 0) 108 rfl rfl rfl hb156 (PO.move hs36_5) rfl ?_
 obtain ⟨r158, hr159, h⟩ := bnd h
 refine WT.know (fun _ hs => h92.rs (hs.front 4 rfl)) (fun hf157 => ?_)
 refine WT.altOn 108 rfl rfl rfl hb156 (EO.call1 co15 (f_frame_Stream_Err_ok (⟨r85, r86, r87⟩ : T_frame_Stream) _ _ _ hf157 r158 hr159) (args1 rfl)) rfl ?_ ?_
 rintro _ M160 _ hle161 ⟨_, ⟨rfl, rfl⟩, rfl⟩
 have h92 := h92.mono hle161
 have hq107_0_1 := hq107_0_1.mono hle161
 have hE := hE.mono hle161
 refine ⟨(StabL.anc rfl (StabL.anc rfl (StabL.anc rfl (StabL.anc rfl (StabL.anc rfl (StabL.anc rfl (StabL.anc rfl (StabL.anc rfl trivial)))))))), ?_⟩
 refine WT.a1 ?_
 obtain ⟨r163, hr164, h⟩ := bnd h
 refine WT.altOn 108 rfl rfl rfl hb156 (EO.call0 co26 (f_fault_Under_ok r158 (⟨#[102, 114, 97, 109, 101]⟩ : ByteArray) _ hE r163 hr164) (args2 rfl rfl)) rfl ?_ ?_
 rintro _ M165 _ hle166 ⟨_, ⟨rfl, rfl⟩, rfl⟩
 have h92 := h92.mono hle166
 have hq107_0_1 := hq107_0_1.mono hle166
 have hE := hE.mono hle166
 refine ⟨(StabL.anc rfl (StabL.anc rfl (StabL.anc rfl (StabL.anc rfl (StabL.anc rfl (StabL.anc rfl (StabL.anc rfl (StabL.anc rfl trivial)))))))), ?_⟩
 refine WT.a0 ?_
 refine Tp (.bool r163) rfl (PO.pickT rfl hb156 rfl) rfl ?_
 refine Tp (.bool r163) rfl (PO.move rfl) rfl ?_
 rcases Bool.eq_false_or_eq_true (r163) with hb168 | hb168
 have h := ite_t hb168 h
 refine Tn (pt g30 0) 113 rfl rfl rfl hb168 (PO.move hs36_5) rfl ?_
 obtain ⟨r170, hr171, h⟩ := bnd h
 refine WT.know (fun _ hs => h92.rs (hs.front 4 rfl)) (fun hf169 => ?_)
 refine WT.altOn 113 rfl rfl rfl hb168 (EO.call1 co16 (f_frame_Stream_Left_ok (⟨r85, r86, r87⟩ : T_frame_Stream) _ _ _ hf169 r170 hr171) (args1 rfl)) rfl ?_ ?_
 rintro _ M172 _ hle173 ⟨_, ⟨rfl, rfl⟩, rfl⟩
 have h92 := h92.mono hle173
 have hq107_0_1 := hq107_0_1.mono hle173
 have hE := hE.mono hle173
 refine ⟨(StabL.anc rfl (StabL.anc rfl (StabL.anc rfl (StabL.anc rfl (StabL.anc rfl (StabL.anc rfl (StabL.anc rfl (StabL.anc rfl (StabL.anc rfl (StabL.anc rfl (StabL.anc rfl trivial))))))))))), ?_⟩
 refine WT.a1 ?_
 refine Tn (.bool (decide (r170 = 0))) 113 rfl rfl rfl hb168 (PO.eql rfl rfl) rfl ?_
 refine Tp (.bool (decide (r170 = 0))) rfl (PO.pickT rfl hb168 rfl) rfl ?_
 refine Tp (.bool (decide (r170 = 0))) rfl (PO.move rfl) rfl ?_
 rcases Bool.eq_false_or_eq_true (decide (r170 = 0)) with hb175 | hb175
 have h := ite_t hb175 h
 obtain ⟨r176, hr177, h⟩ := bnd h
 refine WT.altOn 118 rfl rfl rfl hb175 (EO.call0 co11 (f_law04_works_ok _ hE r176 hr177) (args0)) rfl ?_ ?_
 rintro _ M178 _ hle179 ⟨_, ⟨rfl, rfl⟩, rfl⟩
 have h92 := h92.mono hle179
 have hq107_0_1 := hq107_0_1.mono hle179
 have hE := hE.mono hle179
 refine ⟨(StabL.anc rfl (StabL.anc rfl (StabL.anc rfl (StabL.anc rfl (StabL.anc rfl (StabL.anc rfl (StabL.anc rfl (StabL.anc rfl (StabL.anc rfl (StabL.anc rfl (StabL.anc rfl (StabL.anc rfl (StabL.anc rfl (StabL.anc rfl trivial)))))))))))))), ?_⟩
 refine WT.a0 ?_
 refine Tp (.bool r176) rfl (PO.pickT rfl hb175 rfl) rfl ?_
 refine Tp (.bool r176) rfl (PO.assign rfl) rfl ?_
 refine WT.fin ?_
 refine WQ.f1 ?_
 refine WQ.drop ?_
 refine WQ.f1 ?_
 refine WQ.drop ?_
 refine WQ.f3 ?_
 refine WQ.drop ?_
 refine WQ.f2 ?_
 refine WQ.f1 ?_
 refine WQ.f2 ?_
 obtain rfl := Option.some.inj h
 refine WQ.thenJ ?_
 exact ⟨(((((hle149.trans hle154).trans hle161).trans hle166).trans hle173).trans hle179), rfl, rfl⟩
 exact WT.no
 have h := ite_f hb175 h
 refine WT.altOff 118 rfl rfl rfl hb175 rfl ⟨(StabL.anc rfl (StabL.anc rfl (StabL.anc rfl (StabL.anc rfl (StabL.anc rfl (StabL.anc rfl (StabL.anc rfl (StabL.anc rfl (StabL.anc rfl (StabL.anc rfl (StabL.anc rfl (StabL.anc rfl (StabL.anc rfl (StabL.anc rfl trivial)))))))))))))), ?_⟩ ?_
 refine Tp (.bool false) rfl (PO.pickF rfl hb175 rfl) rfl ?_
 refine Tp (.bool false) rfl (PO.assign rfl) rfl ?_
 refine WT.fin ?_
 refine WQ.f1 ?_
 refine WQ.drop ?_
 refine WQ.f1 ?_
 refine WQ.drop ?_
 refine WQ.f3 ?_
 refine WQ.drop ?_
 refine WQ.f2 ?_
 refine WQ.f1 ?_
 refine WQ.f2 ?_
 obtain rfl := Option.some.inj h
 refine WQ.thenJ ?_
 exact ⟨((((hle149.trans hle154).trans hle161).trans hle166).trans hle173), rfl, rfl⟩
 exact WT.no
 exact WT.no
 have h := ite_f hb168 h
 refine WT.pureOff 113 rfl rfl rfl hb168 rfl ?_
 refine WT.altOff 113 rfl rfl rfl hb168 rfl ⟨(StabL.anc rfl (StabL.anc rfl (StabL.anc rfl (StabL.anc rfl (StabL.anc rfl (StabL.anc rfl (StabL.anc rfl (StabL.anc rfl (StabL.anc rfl (StabL.anc rfl (StabL.anc rfl trivial))))))))))), ?_⟩ ?_
 refine WT.pureOff 113 rfl rfl rfl hb168 rfl ?_
 refine Tp (.bool false) rfl (PO.pickF rfl hb168 rfl) rfl ?_
 refine Tp (.bool false) rfl (PO.move rfl) rfl ?_
 refine WT.altOff 118 rfl rfl rfl rfl rfl ⟨(StabL.anc rfl (StabL.anc rfl (StabL.anc rfl (StabL.anc rfl (StabL.anc rfl (StabL.anc rfl (StabL.anc rfl (StabL.anc rfl (StabL.anc rfl (StabL.anc rfl (StabL.anc rfl (StabL.anc rfl (StabL.anc rfl (StabL.anc rfl trivial)))))))))))))), ?_⟩ ?_
 refine Tp (.bool false) rfl (PO.pickF rfl rfl rfl) rfl ?_
 refine Tp (.bool false) rfl (PO.assign rfl) rfl ?_
 refine WT.fin ?_
 refine WQ.f1 ?_
 refine WQ.drop ?_
 refine WQ.f1 ?_
 refine WQ.drop ?_
 refine WQ.f3 ?_
 refine WQ.drop ?_
 refine WQ.f2 ?_
 refine WQ.f1 ?_
 refine WQ.f2 ?_
 obtain rfl := Option.some.inj h
 refine WQ.thenJ ?_
 exact ⟨(((hle149.trans hle154).trans hle161).trans hle166), rfl, rfl⟩
 exact WT.no
 exact WT.no
 exact WT.no
 exact WT.no
 have h := ite_f hb156 h
 refine WT.pureOff 108 rfl rfl rfl hb156 rfl ?_
 refine WT.altOff 108 rfl rfl rfl hb156 rfl ⟨(StabL.anc rfl (StabL.anc rfl (StabL.anc rfl (StabL.anc rfl (StabL.anc rfl (StabL.anc rfl (StabL.anc rfl (StabL.anc rfl trivial)))))))), ?_⟩ ?_
 refine WT.altOff 108 rfl rfl rfl hb156 rfl ⟨(StabL.anc rfl (StabL.anc rfl (StabL.anc rfl (StabL.anc rfl (StabL.anc rfl (StabL.anc rfl (StabL.anc rfl (StabL.anc rfl trivial)))))))), ?_⟩ ?_
 refine Tp (.bool false) rfl (PO.pickF rfl hb156 rfl) rfl ?_
 refine Tp (.bool false) rfl (PO.move rfl) rfl ?_
 refine WT.pureOff 113 rfl rfl rfl rfl rfl ?_
 refine WT.altOff 113 rfl rfl rfl rfl rfl ⟨(StabL.anc rfl (StabL.anc rfl (StabL.anc rfl (StabL.anc rfl (StabL.anc rfl (StabL.anc rfl (StabL.anc rfl (StabL.anc rfl (StabL.anc rfl (StabL.anc rfl (StabL.anc rfl trivial))))))))))), ?_⟩ ?_
 refine WT.pureOff 113 rfl rfl rfl rfl rfl ?_
 refine Tp (.bool false) rfl (PO.pickF rfl rfl rfl) rfl ?_
 refine Tp (.bool false) rfl (PO.move rfl) rfl ?_
 refine WT.altOff 118 rfl rfl rfl rfl rfl ⟨(StabL.anc rfl (StabL.anc rfl (StabL.anc rfl (StabL.anc rfl (StabL.anc rfl (StabL.anc rfl (StabL.anc rfl (StabL.anc rfl (StabL.anc rfl (StabL.anc rfl (StabL.anc rfl (StabL.anc rfl (StabL.anc rfl (StabL.anc rfl trivial)))))))))))))), ?_⟩ ?_
 refine Tp (.bool false) rfl (PO.pickF rfl rfl rfl) rfl ?_
 refine Tp (.bool false) rfl (PO.assign rfl) rfl ?_
 refine WT.fin ?_
 refine WQ.f1 ?_
 refine WQ.drop ?_
 refine WQ.f1 ?_
 refine WQ.drop ?_
 refine WQ.f3 ?_
 refine WQ.drop ?_
 refine WQ.f2 ?_
 refine WQ.f1 ?_
 refine WQ.f2 ?_
 obtain rfl := Option.some.inj h
 refine WQ.thenJ ?_
 exact ⟨(hle149.trans hle154), rfl, rfl⟩
 exact WT.no
 exact WT.no
 exact WT.no
 exact WT.no
 exact WT.no
 exact WT.no
 rintro ρ144 M144 H144 ⟨hle144, rfl, hs144_4⟩
 have hq107_0_1 := hq107_0_1.mono hle144
 have h92 := h92.mono hle144
 have hE := hE.mono hle144
 refine WC.ret ?_
 refine WQ.drop ?_
 refine WQ.drop ?_
 refine WQ.drop ?_
 exact WQ.returnsF h [] rfl (results1 rfl hs144_4) (((((hle22.trans hle36).trans hle90).trans hle104).trans hle112).trans hle144) ⟨rfl, rfl⟩


end Go.Proofs.YtjiffdgidodebaaDoor.G
