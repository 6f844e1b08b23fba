/- Go functions: what they come to, and that they do. Printed by a program of the session (gen). -/
import Derived.Test.YtjiffdgidodebaaDoorFF
import Derived.Test.YtjiffdgidodebaaDoorF2
import Derived.Test.YtjiffdgidodebaaDoorKShar
set_option linter.unusedVariables false
set_option linter.unusedSimpArgs false
set_option maxHeartbeats 8000000
set_option maxRecDepth 100000
namespace Go.Proofs.YtjiffdgidodebaaDoor.G
open Go Go.KK

noncomputable def f_frame_Stream_Feed_l0 (a0 : T_frame_Stream) (s_ : ((List T_api_Frame) × (List Int) × Int)) : Option (((List T_api_Frame) × (List Int) × Int) ⊕ ((List T_api_Frame) × (List Int) × Int × GErr)) :=
  match s_ with
  | (x35, x36, x37) =>
    ((f_frame_Next x36).bind fun (r43, r44, r45) => (if (!r45.isNil) = true then ((f_fault_Wrap (⟨#[102, 114, 97, 109, 101]⟩ : ByteArray) x37 r45).bind fun (r54 : GErr) => (some (Sum.inr (x35, [], x37, r54)))) else (if (decide (r44 = (0 : Int))) = true then (some (Sum.inr (x35, x36, x37, a0.err))) else (grd (x35.length + [r43].length ≤ 274877906944) (grd (0 ≤ r44 ∧ r44 ≤ (x36.length : Int) ∧ (x36.length : Int) ≤ (x36.length : Int)) (some (Sum.inl (x35 ++ [r43], sub x36 r44 (x36.length : Int), IntKind.i64.wrap (x37 + r44)))))))))
noncomputable def f_frame_Stream_Feed (a0 : T_frame_Stream) (a1 : (List Int)) : Option ((List T_api_Frame) × (List Int) × Int × GErr) :=
  (if (!a0.err.isNil) = true then (some ([], a0.b, a0.gone, a0.err)) else (grd (a0.b.length + a1.length ≤ 274877906944) ((((iter (f_frame_Stream_Feed_l0 a0) ([], a0.b ++ a1, a0.gone)).bind (fun (x38, x39, x40, x41) => (some (x38, x39, x40, x41)))) : Option ((List T_api_Frame) × (List Int) × Int × GErr)).bind fun (x29, x30, x31, x32) => (some (x29, x30, x31, x32)))))
def f_frame_Stream_Feed_post (a0 : T_frame_Stream) (a1 : (List Int)) (v0_0 v1 : Value) (g0 : Nat) : ((List T_api_Frame) × (List Int) × Int × GErr) → Value → IM → HL → Prop :=
  fun (p_ : ((List T_api_Frame) × (List Int) × Int × GErr)) (v : Value) (M' : IM) (H' : HL) => match p_ with | (r0, r1, r2, r3) => ∃ w0 d1 vz0 cz0, vz0 = v ∧ H' = [[(g0, .cells #[w0, (.int .i64 r2), (GV r3)] 33 (0, 0))], d1, cz0] ∧ OwnSh (Kd.int .u8) M' w0 r1 d1 ∧ OwnS kd_api_Frame M' vz0 r0 cz0
theorem f_frame_Stream_Feed_ok (a0 : T_frame_Stream) (a1 : (List Int)) (M : IM) (v0_0 v1 : Value) (g0 : Nat) (c0_0 : Chunk) (h0_0 : OwnSh (Kd.int .u8) M v0_0 a0.b c0_0) (h1 : RS (Kd.int .u8) M v1 a1) (hE : Env M) (res : ((List T_api_Frame) × (List Int) × Int × GErr)) (h : f_frame_Stream_Feed a0 a1 = some res) :
    Tri Tryd.prog 13 #[(pt g0 0), v1] M [[(g0, .cells #[v0_0, (.int .i64 a0.gone), (GV a0.err)] 33 (0, 0))], c0_0] (f_frame_Stream_Feed_post a0 a1 v0_0 v1 g0 res) := by
 unfold f_frame_Stream_Feed at h
 refine Tri.enter (fn := Tryd.f13) Tryd.func13 rfl (Nat.le_of_ble_eq_true rfl) ?_
 intro F ρ hρ
 refine Sr ?_
 refine Pa (.slice none 0 0) rfl rfl ?_
 refine Nt ?_
 refine WC.scope ?_
 refine Sr ?_
 refine Pa (.slice none 0 0) rfl rfl ?_
 refine Nt ?_
 refine WC.seq ?_
 refine Sr ?_
 refine Pm (pt g0 0) (hρ 0) rfl ?_
 refine Pu (pt g0 0) (PO.nilCheck rfl) rfl ?_
 refine Pu (pt g0 2) (PO.fieldAddr fo33_2 rfl rfl) rfl ?_
 refine Pu (GV a0.err) (PO.loadB 0 pl28 rfl rfl rfl) rfl ?_
 refine Pu (.bool (!a0.err.isNil)) (PO.errNotNil Tryd.underlying28 rfl) rfl ?_
 refine Nt ?_
 refine WC.cond (b := !a0.err.isNil) rfl (fun hb21 => ?_) (fun hb21 => ?_)
 have h := ite_t hb21 h
 refine Sr ?_
 refine Pa (.slice none 0 0) rfl rfl ?_
 refine Nt ?_
 refine WC.ret ?_
 refine WQ.thenR ?_
 refine WQ.scopeR ?_
 refine WQ.e0 ?_
 refine WQ.f2 ?_
 refine WQ.f2 ?_
 exact WQ.returnsF h [[(g0, .cells #[v0_0, (.int .i64 a0.gone), (GV a0.err)] 33 (0, 0))], c0_0, []] rfl (results1 rfl rfl) (IM.le.refl _) ⟨v0_0, c0_0, (.slice none 0 0), [], rfl, rfl, h0_0, (OwnS.nil _ _)⟩
 have h := ite_f hb21 h
 refine WC.skip ?_
 refine WQ.thenC ?_
 refine Sr ?_
 refine Pm (pt g0 0) (hρ 0) rfl ?_
 refine Pm (pt g0 0) (hρ 0) rfl ?_
 refine Pu (pt g0 0) (PO.nilCheck rfl) rfl ?_
 refine Pu (pt g0 0) (PO.fieldAddr fo33_0 rfl rfl) rfl ?_
 refine Pu v0_0 (PO.loadB 0 pl26 rfl rfl rfl) rfl ?_
 refine Pm v1 (hρ 1) rfl ?_
 obtain ⟨hg26, h⟩ := grd_i h
 refine WL.f1 ?_
 refine WL.eff (EO.appendSh (dd := (Kd.int .u8)) (xs := a0.b) (ys := a1) Tryd.underlying26 Tryd.underlying26 in5 rfl (appB (by decide) hg26) (by decide) rfl rfl h0_0 (h1.src _)) rfl ?_
 rintro v25 M27 _ hle28 ⟨c23, rfl, h24⟩
 have h1 := h1.mono hle28
 have h0_0 := h0_0.mono hle28
 have hE := hE.mono hle28
 refine Pu (pt g0 0) (PO.nilCheck rfl) rfl ?_
 refine Pu (pt g0 0) (PO.fieldAddr fo33_0 rfl rfl) rfl ?_
 refine WL.f1 ?_
 refine WL.eff (EO.storeL (v := v25) (vl := [v25]) (arr' := [v25, (.int .i64 a0.gone), (GV a0.err)]) h24.cells sz26 rfl rfl (onesOf (Ones.cons (OwnSh.one h24) Ones.nil)) rfl rfl rfl) rfl ?_
 rintro _ _ _ - ⟨rfl, rfl⟩
 refine Nt ?_
 refine WC.seq ?_
 refine WC.label ?_
 refine WQ.thenC ?_
 obtain ⟨j33, hj33, h⟩ := bnd h
 refine WC.joinF (fun (p_ : ((List T_api_Frame) × (List Int) × Int × GErr)) ρ' M' H' => match p_ with | (x29, x30, x31, x32) => ∃ vx29 cx29 vx30 cx30, M27.le M' ∧ [(g0, .cells #[vx30, (.int .i64 x31), (GV x32)] 33 (0, 0))] :: cx29 :: cx30 :: F = H' ∧ ρ' 5 = vx29 ∧ OwnS kd_api_Frame M' vx29 x29 cx29 ∧ OwnSh (Kd.int .u8) M' vx30 x30 cx30) j33 ?_ ?_
 have h333 := h
 have h := hj33
 refine WC.block ?_
 refine WC.e0 ?_
 refine WC.f2 ?_
 refine WC.f1 ?_
 refine WC.f2 ?_
 obtain ⟨e34, he34, hK34⟩ := bnd h
 clear h
 refine WC.loop he34 (fun (p_ : ((List T_api_Frame) × (List Int) × Int)) ρ' M' H' => match p_ with | (x35, x36, x37) => ∃ vx35 cx35 vx36 cx36, M27.le M' ∧ [(g0, .cells #[vx36, (.int .i64 x37), (GV a0.err)] 33 (0, 0))] :: cx35 :: cx36 :: F = H' ∧ ρ' 0 = (pt g0 0) ∧ ρ' 5 = vx35 ∧ OwnS kd_api_Frame M' vx35 x35 cx35 ∧ OwnSh (Kd.int .u8) M' vx36 x36 cx36) ?_ ?_
 exact ⟨(.slice none 0 0), [], v25, c23, (IM.le.refl _), rfl, (hρ 0), rfl, (OwnS.nil _ _), h24⟩
 rintro ⟨x35, x36, x37⟩ o34 ρ34 M34 H34 h ⟨vx35, cx35, vx36, cx36, hle34, rfl, hs34_0, hs34_5, hx35, hx36⟩
 unfold f_frame_Stream_Feed_l0 at h
 have hE := hE.mono hle34
 refine WC.block ?_
 refine Sr ?_
 refine Pm (pt g0 0) hs34_0 rfl ?_
 refine Pu (pt g0 0) (PO.nilCheck rfl) rfl ?_
 refine Pu (pt g0 0) (PO.fieldAddr fo33_0 rfl rfl) rfl ?_
 refine Pu vx36 (PO.loadB 0 pl26 rfl rfl rfl) rfl ?_
 refine WL.know (fun _ hs => hx36.rs (hs.front 2 rfl)) (fun hf42 => ?_)
 obtain ⟨⟨r43, r44, r45⟩, hr46, h⟩ := bnd h
 refine WL.eff (EO.call0 co18 (f_frame_Next_ok x36 _ _ hf42 hE (r43, r44, r45) hr46) (args1 rfl)) rfl ?_
 rintro _ M47 _ hle48 ⟨_, ⟨vq49_1, cq49_1, rfl, rfl, hq49_1⟩, rfl⟩
 have hx35 := hx35.mono hle48
 have hf42 := hf42.mono hle48
 have hx36 := hx36.mono hle48
 have hE := hE.mono hle48
 refine WL.a1 ?_
 refine Pm (.tuple #[(.agg #[(.int .i64 r43.Kind), vq49_1]), (.int .i64 r44), (GV r45)]) rfl rfl ?_
 refine Pu (.agg #[(.int .i64 r43.Kind), vq49_1]) (PO.extract rfl rfl) rfl ?_
 refine Pu (.int .i64 r44) (PO.extract rfl rfl) rfl ?_
 refine Pu (GV r45) (PO.extract rfl rfl) rfl ?_
 refine WL.eff (EO.alloc ze40 rfl) rfl ?_
 rintro _ _ _ - ⟨rfl, g52, rfl, rfl⟩
 refine WL.eff (EO.storeL (v := (.agg #[(.int .i64 r43.Kind), vq49_1])) (vl := [(.int .i64 r43.Kind), vq49_1]) (arr' := [(.int .i64 r43.Kind), vq49_1]) rfl sz40 rfl rfl (onesOf (Ones.cons rfl (Ones.cons (OwnS.one hq49_1) Ones.nil))) rfl rfl rfl) rfl ?_
 rintro _ _ _ - ⟨rfl, rfl⟩
 refine Pa (.int .i64 r44) rfl rfl ?_
 refine Pa (GV r45) rfl rfl ?_
 refine Nt ?_
 refine WC.seq ?_
 refine WC.block ?_
 refine Sr ?_
 refine Pm (GV r45) rfl rfl ?_
 refine Pu (.bool (!r45.isNil)) (PO.errNotNil Tryd.underlying28 rfl) rfl ?_
 refine Pa (.bool (!r45.isNil)) rfl rfl ?_
 refine Nt ?_
 refine WC.cond (b := !r45.isNil) rfl (fun hb53 => ?_) (fun hb53 => ?_)
 have h := ite_t hb53 h
 refine Sr ?_
 refine Pm (pt g0 0) hs34_0 rfl ?_
 refine Pm (pt g0 0) hs34_0 rfl ?_
 refine Pu (pt g0 0) (PO.nilCheck rfl) rfl ?_
 refine Pu (pt g0 1) (PO.fieldAddr fo33_1 rfl rfl) rfl ?_
 refine Pu (.int .i64 x37) (PO.loadB 2 pl3 rfl rfl rfl) rfl ?_
 refine Pm (GV r45) rfl rfl ?_
 obtain ⟨r54, hr55, h⟩ := bnd h
 refine WL.eff (EO.call0 co36 (f_fault_Wrap_ok (⟨#[102, 114, 97, 109, 101]⟩ : ByteArray) x37 r45 _ r54 hr55) (args3 rfl rfl rfl)) rfl ?_
 rintro _ M56 _ hle57 ⟨_, ⟨rfl, rfl⟩, rfl⟩
 have hx35 := hx35.mono hle57
 have hx36 := hx36.mono hle57
 have hq49_1 := hq49_1.mono hle57
 have hE := hE.mono hle57
 refine WL.a0 ?_
 refine Pu (pt g0 0) (PO.nilCheck rfl) rfl ?_
 refine Pu (pt g0 2) (PO.fieldAddr fo33_2 rfl rfl) rfl ?_
 refine WL.f2 ?_
 refine WL.eff (EO.storeL (v := (GV r54)) (vl := [(GV r54)]) (arr' := [vx36, (.int .i64 x37), (GV r54)]) (GErr.val_cells _ _ _ _) sz28 rfl rfl (onesOf (Ones.cons (GErr.val_one _ _ _ _) Ones.nil)) rfl rfl rfl) rfl ?_
 rintro _ _ _ - ⟨rfl, rfl⟩
 refine Ns ?_
 refine Pm (pt g0 0) hs34_0 rfl ?_
 refine Pu (pt g0 0) (PO.nilCheck rfl) rfl ?_
 refine Pu (pt g0 0) (PO.fieldAddr fo33_0 rfl rfl) rfl ?_
 refine WL.eff (EO.storeL (v := (.slice none 0 0)) (vl := [(.slice none 0 0)]) (arr' := [(.slice none 0 0), (.int .i64 x37), (GV r54)]) rfl sz26 rfl rfl (onesOf (Ones.cons rfl Ones.nil)) rfl rfl rfl) rfl ?_
 rintro _ _ _ - ⟨rfl, rfl⟩
 refine Nt ?_
 refine WC.exit ?_
 refine WQ.blockM rfl ?_
 refine WQ.thenE ?_
 refine WQ.blockM rfl ?_
 refine WQ.leaveE (x35, [], x37, r54) (Option.some.inj h).symm (fun heq34 => ?_)
 subst heq34
 have h := hK34
 refine WQ.blockH ?_
 refine WQ.e0 ?_
 refine WQ.f2 ?_
 refine WQ.drop ?_
 refine WQ.f2 ?_
 refine WQ.drop ?_
 refine WQ.f3 ?_
 refine WQ.drop ?_
 refine WQ.f2 ?_
 refine WQ.f2 ?_
 obtain rfl := Option.some.inj h
 refine WQ.thenJ ?_
 exact ⟨vx35, cx35, (.slice none 0 0), [], ((hle34.trans hle48).trans hle57), rfl, hs34_5, hx35, (OwnSh.nil _ _)⟩
 have h := ite_f hb53 h
 refine Sr ?_
 refine Pm (.int .i64 r44) rfl rfl ?_
 refine Pu (.bool (decide (r44 = 0))) (PO.eql rfl rfl) rfl ?_
 refine Pa (.bool (decide (r44 = 0))) rfl rfl ?_
 refine Nt ?_
 refine WC.cond (b := decide (r44 = 0)) rfl (fun hb60 => ?_) (fun hb60 => ?_)
 have h := ite_t hb60 h
 refine WC.exit ?_
 refine WQ.blockM rfl ?_
 refine WQ.thenE ?_
 refine WQ.blockM rfl ?_
 refine WQ.leaveE (x35, x36, x37, a0.err) (Option.some.inj h).symm (fun heq34 => ?_)
 subst heq34
 have h := hK34
 refine WQ.blockH ?_
 refine WQ.drop ?_
 refine WQ.drop ?_
 obtain rfl := Option.some.inj h
 refine WQ.thenJ ?_
 exact ⟨vx35, cx35, vx36, cx36, (hle34.trans hle48), rfl, hs34_5, hx35, hx36⟩
 have h := ite_f hb60 h
 refine WC.skip ?_
 refine WQ.blockN ?_
 refine WQ.thenC ?_
 refine Sr ?_
 refine Pm vx35 hs34_5 rfl ?_
 refine Pu (.agg #[(.int .i64 r43.Kind), vq49_1]) (PO.loadBA (cs := [(.int .i64 r43.Kind), vq49_1]) 0 ag40 sz40 rfl rfl rfl) rfl ?_
 refine WL.f1 ?_
 refine WL.know (fun _ hs => hq49_1.rs hs) (fun hf65 => ?_)
 refine WL.freeze (fun hle64 => ?_)
 have hx35 := hx35.mono hle64
 have hx36 := hx36.mono hle64
 have hE := hE.mono hle64
 refine WL.eff (EO.buildSliceL (cl := [(.int .i64 r43.Kind), vq49_1]) Tryd.underlying22 iz40 rfl (Parts.cons (congrArg Value.cells (show ev _ _ = (.agg #[(.int .i64 r43.Kind), vq49_1]) from rfl)) Parts.nil) rfl) rfl ?_
 rintro _ _ _ - ⟨rfl, g66, rfl, rfl⟩
 have h68 : OwnS kd_api_Frame (M47.add cq49_1) (.slice (some ⟨g66, 0, none⟩) 1 1) [r43] [(g66, .cells #[(.int .i64 r43.Kind), vq49_1] 40 (0, 0))] := OwnS.rows (css := [[(.int .i64 r43.Kind), vq49_1]]) (Rows.cons (kd_api_Frame_mk (x := r43) hf65) Rows.nil) rfl rfl
 obtain ⟨hg72, h⟩ := grd_i h
 refine WL.f3 ?_
 refine WL.eff (EO.append (dd := kd_api_Frame) (xs := x35) (ys := [r43]) Tryd.underlying22 Tryd.underlying22 in40 rfl (appB (by decide) hg72) (by decide) rfl rfl hx35 (h68.src 1 rfl)) rfl ?_
 rintro v71 _ _ - ⟨rfl, c69, rfl, h70⟩
 refine Pa v71 rfl rfl ?_
 refine Ns ?_
 refine Pm (pt g0 0) hs34_0 rfl ?_
 refine Pm (pt g0 0) hs34_0 rfl ?_
 refine Pu (pt g0 0) (PO.nilCheck rfl) rfl ?_
 refine Pu (pt g0 0) (PO.fieldAddr fo33_0 rfl rfl) rfl ?_
 refine Pu vx36 (PO.loadB 3 pl26 rfl rfl rfl) rfl ?_
 refine Pm (.int .i64 r44) rfl rfl ?_
 obtain ⟨hg73, h⟩ := grd_i h
 have h74 := hx36.sub hg73.1 hg73.2.1 rfl
 refine Pu (slV vx36 1 (r44).toNat ((x36.length : Int)).toNat) (PO.slice (n := x36.length) (l := (r44).toNat) (h := ((x36.length : Int)).toNat) Tryd.underlying26 sz5 rfl hx36.len hx36.cap ⟨_, _, rfl, hg73.1, rfl⟩ (boundN_ rfl) (Int.toNat_le_toNat hg73.2.1) (toNat_le_len hg73.2.2)) rfl ?_
 refine Pu (pt g0 0) (PO.nilCheck rfl) rfl ?_
 refine Pu (pt g0 0) (PO.fieldAddr fo33_0 rfl rfl) rfl ?_
 refine WL.f3 ?_
 refine WL.eff (EO.storeL (v := (slV vx36 1 (r44).toNat ((x36.length : Int)).toNat)) (vl := [(slV vx36 1 (r44).toNat ((x36.length : Int)).toNat)]) (arr' := [(slV vx36 1 (r44).toNat ((x36.length : Int)).toNat), (.int .i64 x37), (GV a0.err)]) h74.cells sz26 rfl rfl (onesOf (Ones.cons (OwnSh.one h74) Ones.nil)) rfl rfl rfl) rfl ?_
 rintro _ _ _ - ⟨rfl, rfl⟩
 refine Nt ?_
 refine WC.region ?_
 refine Pm (pt g0 0) hs34_0 rfl ?_
 refine Pu (pt g0 0) (PO.nilCheck rfl) rfl ?_
 refine Pu (pt g0 1) (PO.fieldAddr fo33_1 rfl rfl) rfl ?_
 refine Pu (.int .i64 x37) (PO.loadB 0 pl3 rfl rfl rfl) rfl ?_
 refine Pm (.int .i64 r44) rfl rfl ?_
 refine Pu (.int .i64 (IntKind.i64.wrap (x37 + r44))) (PO.add rfl rfl) rfl ?_
 refine Pu (pt g0 0) (PO.nilCheck rfl) rfl ?_
 refine Pu (pt g0 1) (PO.fieldAddr fo33_1 rfl rfl) rfl ?_
 refine WL.eff (EO.storeL (v := (.int .i64 (IntKind.i64.wrap (x37 + r44)))) (vl := [(.int .i64 (IntKind.i64.wrap (x37 + r44)))]) (arr' := [(slV vx36 1 (r44).toNat ((x36.length : Int)).toNat), (.int .i64 (IntKind.i64.wrap (x37 + r44))), (GV a0.err)]) rfl sz3 rfl rfl (onesOf (Ones.cons rfl Ones.nil)) rfl rfl rfl) rfl ?_
 rintro _ _ _ - ⟨rfl, rfl⟩
 refine WL.nil ?_
 refine WQ.blockN ?_
 refine WQ.f2 ?_
 refine WQ.drop ?_
 refine WQ.f2 ?_
 refine WQ.drop ?_
 refine WQ.again (x35 ++ [r43], sub x36 r44 (x36.length : Int), IntKind.i64.wrap (x37 + r44)) (Option.some.inj h).symm ?_
 exact ⟨v71, c69, (slV vx36 1 (r44).toNat ((x36.length : Int)).toNat), cx36, ((hle34.trans hle48).trans hle64), rfl, hs34_0, rfl, h70, h74⟩
 obtain ⟨x29, x30, x31, x32⟩ := j33
 rintro ρ33 M33 H33 ⟨vx29, cx29, vx30, cx30, hle33, rfl, hs33_5, hx29, hx30⟩
 have hE := hE.mono hle33
 refine Sr ?_
 refine Pm vx29 hs33_5 rfl ?_
 refine Pa vx29 rfl rfl ?_
 refine Nt ?_
 refine WC.ret ?_
 refine WQ.scopeR ?_
 refine WQ.f1 ?_
 refine WQ.f2 ?_
 refine WQ.f2 ?_
 exact WQ.returnsF h [[(g0, .cells #[vx30, (.int .i64 x31), (GV x32)] 33 (0, 0))], cx30, cx29] rfl (results1 rfl rfl) (hle28.trans hle33) ⟨vx30, cx30, vx29, cx29, rfl, rfl, hx30, hx29⟩

noncomputable def f_errors_is_l0 (a1 : Int) (s_ : GErr) : Option (GErr ⊕ Bool) :=
  match s_ with
  | x22 =>
    (match x22 with | .nil => (some (Sum.inr false)) | .code n24 => (if (decide (n24 = a1)) = true then (some (Sum.inr true)) else (some (Sum.inr false))) | .fault o25 a26 e27 => ((f_api_Fault_Unwrap (⟨o25, a26, e27⟩ : T_api_Fault)).bind fun (r30 : GErr) => (if r30.isNil = true then (some (Sum.inr false)) else (some (Sum.inl r30)))) | .other b28 => (some (Sum.inr false)))
noncomputable def f_errors_is (a0 : GErr) (a1 : Int) : Option Bool :=
  ((iter (f_errors_is_l0 a1) a0).bind (fun (x23 : Bool) => (some x23)))
def f_errors_is_post (a0 : GErr) (a1 : Int) : Bool → Value → IM → HL → Prop :=
  fun (r0 : Bool) (v : Value) (M' : IM) (H' : HL) => (.bool r0) = v ∧ H' = []
theorem f_errors_is_ok (a0 : GErr) (a1 : Int) (M : IM) (res : Bool) (h : f_errors_is a0 a1 = some res) :
    Tri Tryd.prog 90 #[(GV a0), (GV (GErr.code a1)), (.bool true)] M [] (f_errors_is_post a0 a1 res) := by
 unfold f_errors_is at h
 refine Tri.enter (fn := Tryd.f90) Tryd.func90 rfl (Nat.le_of_ble_eq_true rfl) ?_
 intro F ρ hρ
 refine Sr ?_
 refine Pa (.bool false) rfl rfl ?_
 refine Nt ?_
 refine WC.block ?_
 obtain ⟨e21, he21, hK21⟩ := bnd h
 clear h
 refine WC.loop he21 (fun (x22 : GErr) ρ' M' H' => M.le M' ∧ F = H' ∧ ρ' 0 = (GV x22) ∧ ρ' 1 = (GV (GErr.code a1)) ∧ ρ' 2 = (.bool true)) ?_ ?_
 exact ⟨(IM.le.refl _), rfl, (hρ 0), (hρ 1), (hρ 2)⟩
 rintro x22 o21 ρ21 M21 H21 h ⟨hle21, rfl, hs21_0, hs21_1, hs21_2⟩
 unfold f_errors_is_l0 at h
 refine WC.block ?_
 refine WC.seq ?_
 refine Sr ?_
 refine Pm (.bool true) hs21_2 rfl ?_
 refine Pm (.bool true) rfl rfl ?_
 refine On 15 rfl rfl rfl ?_
 refine Pm (GV x22) hs21_0 rfl ?_
 refine On 15 rfl rfl rfl ?_
 refine Pm (GV (GErr.code a1)) hs21_1 rfl ?_
 refine On 15 rfl rfl rfl ?_
 rcases x22 with _ | n24 | ⟨o25, a26, e27⟩ | b28
 refine Pu (.bool false) (PO.nilIfaceNe Tryd.underlying28 (show ev _ _ = .nilIface from rfl) (show ev _ _ = (.iface 47 (.int .i64 a1)) from rfl)) rfl ?_
 refine Pu (.bool false) (PO.pickT rfl rfl rfl) rfl ?_
 refine Nt ?_
 refine WC.condF (b := false) rfl rfl ?_
 refine WC.skip ?_
 refine WQ.thenC ?_
 refine WC.seq ?_
 refine Sr ?_
 refine Pm (GV GErr.nil) hs21_0 rfl ?_
 refine Pu (.tuple #[.nilIface, (.bool false)]) (PO.asserts (show ev _ _ = .nilIface from rfl) (run_assert_nil zo188 Tryd.underlying188)) rfl ?_
 refine Pm (.tuple #[.nilIface, (.bool false)]) rfl rfl ?_
 refine Pu .nilIface (PO.extract rfl rfl) rfl ?_
 refine Pu (.bool false) (PO.extract rfl rfl) rfl ?_
 refine Pa .nilIface rfl rfl ?_
 refine Pa (.bool false) rfl rfl ?_
 refine Ns ?_
 refine Pm (.bool false) rfl rfl ?_
 refine Pm (.bool false) rfl rfl ?_
 iterate 3 refine Of 26 rfl rfl rfl rfl ?_
 refine Pu (.bool false) (PO.pickF rfl rfl rfl) rfl ?_
 refine Nt ?_
 refine WC.condF (b := false) rfl rfl ?_
 refine WC.skip ?_
 refine WQ.thenC ?_
 refine Sr ?_
 refine Pm (GV GErr.nil) hs21_0 rfl ?_
 refine Nt ?_
 refine WC.block ?_
 refine Sr ?_
 refine Pu (.tuple #[.nilIface, (.bool false)]) (PO.asserts (show ev _ _ = .nilIface from rfl) (run_assert_nil zo170 Tryd.underlying170)) rfl ?_
 refine Pu (.bool false) (PO.extract rfl rfl) rfl ?_
 refine Pu .nilIface (PO.extract rfl rfl) rfl ?_
 refine Nt ?_
 refine WC.condF (b := false) rfl rfl ?_
 refine Sr ?_
 refine Pu (.tuple #[.nilIface, (.bool false)]) (PO.asserts (show ev _ _ = .nilIface from rfl) (run_assert_nil zo171 Tryd.underlying171)) rfl ?_
 refine Pu (.bool false) (PO.extract rfl rfl) rfl ?_
 refine Pu .nilIface (PO.extract rfl rfl) rfl ?_
 refine Nt ?_
 refine WC.condF (b := false) rfl rfl ?_
 refine Sr ?_
 refine Pa (GV GErr.nil) rfl rfl ?_
 refine Ns ?_
 refine Pa (.bool false) rfl rfl ?_
 refine Nt ?_
 refine WC.ret ?_
 refine WQ.blockR ?_
 refine WQ.blockR ?_
 refine WQ.leaveR false (Option.some.inj h).symm (fun heq21 => ?_)
 subst heq21
 have h := hK21
 refine WQ.blockR ?_
 exact WQ.returnsF h [] rfl (results1 rfl rfl) hle21 ⟨rfl, rfl⟩
 refine Pu (.bool (decide (n24 = a1))) (PO.ifaceInt Tryd.underlying28 Tryd.underlying47 cm47 (show ev _ _ = (.iface 47 (.int .i64 n24)) from rfl) (show ev _ _ = (.iface 47 (.int .i64 a1)) from rfl)) rfl ?_
 refine Pu (.bool (decide (n24 = a1))) (PO.pickT rfl rfl rfl) rfl ?_
 refine Nt ?_
 refine WC.cond (b := decide (n24 = a1)) rfl (fun hb29 => ?_) (fun hb29 => ?_)
 have h := ite_t hb29 h
 refine Sr ?_
 refine Pa (.bool true) rfl rfl ?_
 refine Nt ?_
 refine WC.ret ?_
 refine WQ.thenR ?_
 refine WQ.blockR ?_
 refine WQ.leaveR true (Option.some.inj h).symm (fun heq21 => ?_)
 subst heq21
 have h := hK21
 refine WQ.blockR ?_
 exact WQ.returnsF h [] rfl (results1 rfl rfl) hle21 ⟨rfl, rfl⟩
 have h := ite_f hb29 h
 refine WC.skip ?_
 refine WQ.thenC ?_
 refine WC.seq ?_
 refine Sr ?_
 refine Pm (GV (GErr.code n24)) hs21_0 rfl ?_
 refine Pu (.tuple #[.nilIface, (.bool false)]) (PO.asserts (show ev _ _ = (.iface 47 (.int .i64 n24)) from rfl) (la47_188 _ _)) rfl ?_
 refine Pm (.tuple #[.nilIface, (.bool false)]) rfl rfl ?_
 refine Pu .nilIface (PO.extract rfl rfl) rfl ?_
 refine Pu (.bool false) (PO.extract rfl rfl) rfl ?_
 refine Pa .nilIface rfl rfl ?_
 refine Pa (.bool false) rfl rfl ?_
 refine Ns ?_
 refine Pm (.bool false) rfl rfl ?_
 refine Pm (.bool false) rfl rfl ?_
 iterate 3 refine Of 26 rfl rfl rfl rfl ?_
 refine Pu (.bool false) (PO.pickF rfl rfl rfl) rfl ?_
 refine Nt ?_
 refine WC.condF (b := false) rfl rfl ?_
 refine WC.skip ?_
 refine WQ.thenC ?_
 refine Sr ?_
 refine Pm (GV (GErr.code n24)) hs21_0 rfl ?_
 refine Nt ?_
 refine WC.block ?_
 refine Sr ?_
 refine Pu (.tuple #[.nilIface, (.bool false)]) (PO.asserts (show ev _ _ = (.iface 47 (.int .i64 n24)) from rfl) (la47_170 _ _)) rfl ?_
 refine Pu (.bool false) (PO.extract rfl rfl) rfl ?_
 refine Pu .nilIface (PO.extract rfl rfl) rfl ?_
 refine Nt ?_
 refine WC.condF (b := false) rfl rfl ?_
 refine Sr ?_
 refine Pu (.tuple #[.nilIface, (.bool false)]) (PO.asserts (show ev _ _ = (.iface 47 (.int .i64 n24)) from rfl) (la47_171 _ _)) rfl ?_
 refine Pu (.bool false) (PO.extract rfl rfl) rfl ?_
 refine Pu .nilIface (PO.extract rfl rfl) rfl ?_
 refine Nt ?_
 refine WC.condF (b := false) rfl rfl ?_
 refine Sr ?_
 refine Pa (GV (GErr.code n24)) rfl rfl ?_
 refine Ns ?_
 refine Pa (.bool false) rfl rfl ?_
 refine Nt ?_
 refine WC.ret ?_
 refine WQ.blockR ?_
 refine WQ.blockR ?_
 refine WQ.leaveR false (Option.some.inj h).symm (fun heq21 => ?_)
 subst heq21
 have h := hK21
 refine WQ.blockR ?_
 exact WQ.returnsF h [] rfl (results1 rfl rfl) hle21 ⟨rfl, rfl⟩
 refine Pu (.bool false) (PO.ifaceNe Tryd.underlying28 (show ev _ _ = (.iface 89 (.agg #[.string o25, .int .i64 a26, GV e27])) from rfl) (show ev _ _ = (.iface 47 (.int .i64 a1)) from rfl) rfl) rfl ?_
 refine Pu (.bool false) (PO.pickT rfl rfl rfl) rfl ?_
 refine Nt ?_
 refine WC.condF (b := false) rfl rfl ?_
 refine WC.skip ?_
 refine WQ.thenC ?_
 refine WC.seq ?_
 refine Sr ?_
 refine Pm (GV (GErr.fault o25 a26 e27)) hs21_0 rfl ?_
 refine Pu (.tuple #[.nilIface, (.bool false)]) (PO.asserts (show ev _ _ = (.iface 89 (.agg #[.string o25, .int .i64 a26, GV e27])) from rfl) (la89_188 _ _)) rfl ?_
 refine Pm (.tuple #[.nilIface, (.bool false)]) rfl rfl ?_
 refine Pu .nilIface (PO.extract rfl rfl) rfl ?_
 refine Pu (.bool false) (PO.extract rfl rfl) rfl ?_
 refine Pa .nilIface rfl rfl ?_
 refine Pa (.bool false) rfl rfl ?_
 refine Ns ?_
 refine Pm (.bool false) rfl rfl ?_
 refine Pm (.bool false) rfl rfl ?_
 iterate 3 refine Of 26 rfl rfl rfl rfl ?_
 refine Pu (.bool false) (PO.pickF rfl rfl rfl) rfl ?_
 refine Nt ?_
 refine WC.condF (b := false) rfl rfl ?_
 refine WC.skip ?_
 refine WQ.thenC ?_
 refine Sr ?_
 refine Pm (GV (GErr.fault o25 a26 e27)) hs21_0 rfl ?_
 refine Nt ?_
 refine WC.block ?_
 refine Sr ?_
 refine Pu (.tuple #[(GV (GErr.fault o25 a26 e27)), (.bool true)]) (PO.asserts (show ev _ _ = (.iface 89 (.agg #[.string o25, .int .i64 a26, GV e27])) from rfl) (ha89_170 _ _)) rfl ?_
 refine Pu (.bool true) (PO.extract rfl rfl) rfl ?_
 refine Pu (GV (GErr.fault o25 a26 e27)) (PO.extract rfl rfl) rfl ?_
 refine Nt ?_
 refine WC.condT (b := true) rfl rfl ?_
 refine Sr ?_
 refine Pa (GV (GErr.fault o25 a26 e27)) rfl rfl ?_
 refine Ns ?_
 refine Pm (GV (GErr.fault o25 a26 e27)) rfl rfl ?_
 obtain ⟨r30, hr31, h⟩ := bnd h
 refine WL.eff (EO.invT (show ev _ _ = (.iface 89 (.agg #[.string o25, .int .i64 a26, GV e27])) from rfl) (me89_Unwrap _) co139 inv0 (f_api_Fault_Unwrap_ok (⟨o25, a26, e27⟩ : T_api_Fault) _ r30 hr31)) rfl ?_
 rintro _ M32 _ hle33 ⟨_, ⟨rfl, rfl⟩, rfl⟩
 refine WL.a0 ?_
 refine Pa (GV r30) rfl rfl ?_
 refine Ns ?_
 refine Pm (GV r30) rfl rfl ?_
 refine Pu (.bool r30.isNil) (PO.errNil Tryd.underlying28 rfl) rfl ?_
 refine Nt ?_
 refine WC.cond (b := r30.isNil) rfl (fun hb35 => ?_) (fun hb35 => ?_)
 have h := ite_t hb35 h
 refine Sr ?_
 refine Pa (.bool false) rfl rfl ?_
 refine Nt ?_
 refine WC.ret ?_
 refine WQ.blockR ?_
 refine WQ.blockR ?_
 refine WQ.leaveR false (Option.some.inj h).symm (fun heq21 => ?_)
 subst heq21
 have h := hK21
 refine WQ.blockR ?_
 exact WQ.returnsF h [] rfl (results1 rfl rfl) (hle21.trans hle33) ⟨rfl, rfl⟩
 have h := ite_f hb35 h
 refine WC.skip ?_
 refine WQ.blockN ?_
 refine WQ.blockN ?_
 refine WQ.again r30 (Option.some.inj h).symm ?_
 exact ⟨(hle21.trans hle33), rfl, rfl, hs21_1, hs21_2⟩
 refine Pu (.bool false) (PO.ifaceNe Tryd.underlying28 (show ev _ _ = (.iface 0 (.pointer (some b28))) from rfl) (show ev _ _ = (.iface 47 (.int .i64 a1)) from rfl) rfl) rfl ?_
 refine Pu (.bool false) (PO.pickT rfl rfl rfl) rfl ?_
 refine Nt ?_
 refine WC.condF (b := false) rfl rfl ?_
 refine WC.skip ?_
 refine WQ.thenC ?_
 refine WC.seq ?_
 refine Sr ?_
 refine Pm (GV (GErr.other b28)) hs21_0 rfl ?_
 refine Pu (.tuple #[.nilIface, (.bool false)]) (PO.asserts (show ev _ _ = (.iface 0 (.pointer (some b28))) from rfl) (la0_188 _ _)) rfl ?_
 refine Pm (.tuple #[.nilIface, (.bool false)]) rfl rfl ?_
 refine Pu .nilIface (PO.extract rfl rfl) rfl ?_
 refine Pu (.bool false) (PO.extract rfl rfl) rfl ?_
 refine Pa .nilIface rfl rfl ?_
 refine Pa (.bool false) rfl rfl ?_
 refine Ns ?_
 refine Pm (.bool false) rfl rfl ?_
 refine Pm (.bool false) rfl rfl ?_
 iterate 3 refine Of 26 rfl rfl rfl rfl ?_
 refine Pu (.bool false) (PO.pickF rfl rfl rfl) rfl ?_
 refine Nt ?_
 refine WC.condF (b := false) rfl rfl ?_
 refine WC.skip ?_
 refine WQ.thenC ?_
 refine Sr ?_
 refine Pm (GV (GErr.other b28)) hs21_0 rfl ?_
 refine Nt ?_
 refine WC.block ?_
 refine Sr ?_
 refine Pu (.tuple #[.nilIface, (.bool false)]) (PO.asserts (show ev _ _ = (.iface 0 (.pointer (some b28))) from rfl) (la0_170 _ _)) rfl ?_
 refine Pu (.bool false) (PO.extract rfl rfl) rfl ?_
 refine Pu .nilIface (PO.extract rfl rfl) rfl ?_
 refine Nt ?_
 refine WC.condF (b := false) rfl rfl ?_
 refine Sr ?_
 refine Pu (.tuple #[.nilIface, (.bool false)]) (PO.asserts (show ev _ _ = (.iface 0 (.pointer (some b28))) from rfl) (la0_171 _ _)) rfl ?_
 refine Pu (.bool false) (PO.extract rfl rfl) rfl ?_
 refine Pu .nilIface (PO.extract rfl rfl) rfl ?_
 refine Nt ?_
 refine WC.condF (b := false) rfl rfl ?_
 refine Sr ?_
 refine Pa (GV (GErr.other b28)) rfl rfl ?_
 refine Ns ?_
 refine Pa (.bool false) rfl rfl ?_
 refine Nt ?_
 refine WC.ret ?_
 refine WQ.blockR ?_
 refine WQ.blockR ?_
 refine WQ.leaveR false (Option.some.inj h).symm (fun heq21 => ?_)
 subst heq21
 have h := hK21
 refine WQ.blockR ?_
 exact WQ.returnsF h [] rfl (results1 rfl rfl) hle21 ⟨rfl, rfl⟩

noncomputable def f_errors_Is (a0 : GErr) (a1 : Int) : Option Bool :=
  (if a0.isNil = true then (match a0 with | .nil => (some false) | .code n22 => (some (decide (n22 = a1))) | .fault o23 a24 e25 => (some false) | .other b26 => (some false)) else ((f_errors_is a0 a1).bind fun (r27 : Bool) => (some r27)))
def f_errors_Is_post (a0 : GErr) (a1 : Int) : Bool → Value → IM → HL → Prop :=
  fun (r0 : Bool) (v : Value) (M' : IM) (H' : HL) => (.bool r0) = v ∧ H' = []
theorem f_errors_Is_ok (a0 : GErr) (a1 : Int) (M : IM) (res : Bool) (h : f_errors_Is a0 a1 = some res) :
    Tri Tryd.prog 58 #[(GV a0), (GV (GErr.code a1))] M [] (f_errors_Is_post a0 a1 res) := by
 unfold f_errors_Is at h
 refine Tri.enter (fn := Tryd.f58) Tryd.func58 rfl (Nat.le_of_ble_eq_true rfl) ?_
 intro F ρ hρ
 refine Sr ?_
 refine Pa (.bool false) rfl rfl ?_
 refine Nt ?_
 refine WC.seq ?_
 refine Sr ?_
 refine Pm (GV a0) (hρ 0) rfl ?_
 refine Pu (.bool a0.isNil) (PO.errNil Tryd.underlying28 rfl) rfl ?_
 refine Pm (.bool a0.isNil) rfl rfl ?_
 rcases Bool.eq_false_or_eq_true (a0.isNil) with hb21 | hb21
 have h := ite_t hb21 h
 iterate 2 refine Of 8 rfl rfl hb21 rfl ?_
 refine Pu (.bool true) (PO.pickT rfl hb21 rfl) rfl ?_
 refine Nt ?_
 refine WC.condT (b := true) rfl rfl ?_
 refine Sr ?_
 refine Pm (GV a0) (hρ 0) rfl ?_
 refine Pm (GV (GErr.code a1)) (hρ 1) rfl ?_
 rcases a0 with _ | n22 | ⟨o23, a24, e25⟩ | b26
 refine Pu (.bool false) (PO.nilIfaceNe Tryd.underlying28 (show ev _ _ = .nilIface from rfl) (show ev _ _ = (.iface 47 (.int .i64 a1)) from rfl)) rfl ?_
 refine Pa (.bool false) rfl rfl ?_
 refine Nt ?_
 refine WC.ret ?_
 refine WQ.thenR ?_
 exact WQ.returnsF h [] rfl (results1 rfl rfl) (IM.le.refl _) ⟨rfl, rfl⟩
 refine Pu (.bool (decide (n22 = a1))) (PO.ifaceInt Tryd.underlying28 Tryd.underlying47 cm47 (show ev _ _ = (.iface 47 (.int .i64 n22)) from rfl) (show ev _ _ = (.iface 47 (.int .i64 a1)) from rfl)) rfl ?_
 refine Pa (.bool (decide (n22 = a1))) rfl rfl ?_
 refine Nt ?_
 refine WC.ret ?_
 refine WQ.thenR ?_
 exact WQ.returnsF h [] rfl (results1 rfl rfl) (IM.le.refl _) ⟨rfl, rfl⟩
 refine Pu (.bool false) (PO.ifaceNe Tryd.underlying28 (show ev _ _ = (.iface 89 (.agg #[.string o23, .int .i64 a24, GV e25])) from rfl) (show ev _ _ = (.iface 47 (.int .i64 a1)) from rfl) rfl) rfl ?_
 refine Pa (.bool false) rfl rfl ?_
 refine Nt ?_
 refine WC.ret ?_
 refine WQ.thenR ?_
 exact WQ.returnsF h [] rfl (results1 rfl rfl) (IM.le.refl _) ⟨rfl, rfl⟩
 refine Pu (.bool false) (PO.ifaceNe Tryd.underlying28 (show ev _ _ = (.iface 0 (.pointer (some b26))) from rfl) (show ev _ _ = (.iface 47 (.int .i64 a1)) from rfl) rfl) rfl ?_
 refine Pa (.bool false) rfl rfl ?_
 refine Nt ?_
 refine WC.ret ?_
 refine WQ.thenR ?_
 exact WQ.returnsF h [] rfl (results1 rfl rfl) (IM.le.refl _) ⟨rfl, rfl⟩
 have h := ite_f hb21 h
 refine On 8 rfl rfl hb21 ?_
 refine Pm (GV (GErr.code a1)) (hρ 1) rfl ?_
 refine On 8 rfl rfl hb21 ?_
 refine Pu (.bool false) (PO.errNil (tc := 47) (tf := 89) (tp := 0) (e := GErr.code a1) Tryd.underlying28 rfl) rfl ?_
 refine Pu (.bool false) (PO.pickF rfl hb21 rfl) rfl ?_
 refine Nt ?_
 refine WC.condF (b := false) rfl rfl ?_
 refine WC.skip ?_
 refine WQ.thenC ?_
 refine Sr ?_
 refine Pm (GV (GErr.code a1)) (hρ 1) rfl ?_
 refine WL.eff (EO.extP xt89 (args1 (show ev _ _ = (.iface 47 (.int .i64 a1)) from rfl)) (ty47 _)) rfl ?_
 rintro _ _ _ - ⟨rfl, rfl, rfl⟩
 refine WL.eff (EO.invE (show ev _ _ = (.iface 163 (.agg #[.pointer (some ⟨1, 47, none⟩)])) from rfl) (mm_Comparable (pt 1 47)) xt145 inv0 mr_Comparable_47) rfl ?_
 rintro _ _ _ - ⟨rfl, rfl, rfl⟩
 refine Pa (.bool true) rfl rfl ?_
 refine Ns ?_
 refine Pm (GV a0) (hρ 0) rfl ?_
 refine Pm (GV (GErr.code a1)) (hρ 1) rfl ?_
 refine Pm (.bool true) rfl rfl ?_
 obtain ⟨r27, hr28, h⟩ := bnd h
 refine WL.eff (EO.call0 co90 (f_errors_is_ok a0 a1 _ r27 hr28) (args3 rfl rfl rfl)) rfl ?_
 rintro _ M29 _ hle30 ⟨_, ⟨rfl, rfl⟩, rfl⟩
 refine WL.a0 ?_
 refine Pa (.bool r27) rfl rfl ?_
 refine Nt ?_
 refine WC.ret ?_
 exact WQ.returnsF h [] rfl (results1 rfl rfl) hle30 ⟨rfl, rfl⟩

noncomputable def f_fault_Is (a0 : GErr) (a1 : Int) : Option Bool :=
  ((f_errors_Is a0 a1).bind fun (r21 : Bool) => (some r21))
def f_fault_Is_post (a0 : GErr) (a1 : Int) : Bool → Value → IM → HL → Prop :=
  fun (r0 : Bool) (v : Value) (M' : IM) (H' : HL) => (.bool r0) = v ∧ H' = []
theorem f_fault_Is_ok (a0 : GErr) (a1 : Int) (M : IM) (res : Bool) (h : f_fault_Is a0 a1 = some res) :
    Tri Tryd.prog 35 #[(GV a0), (.int .i64 a1)] M [] (f_fault_Is_post a0 a1 res) := by
 unfold f_fault_Is at h
 refine Tri.enter (fn := Tryd.f35) Tryd.func35 rfl (Nat.le_of_ble_eq_true rfl) ?_
 intro F ρ hρ
 refine Sr ?_
 refine Pa (.bool false) rfl rfl ?_
 refine Ns ?_
 refine Pm (GV a0) (hρ 0) rfl ?_
 refine Pm (.int .i64 a1) (hρ 1) rfl ?_
 refine Pu (GV (GErr.code a1)) (PO.makeInterface cc47 rfl) rfl ?_
 obtain ⟨r21, hr22, h⟩ := bnd h
 refine WL.eff (EO.call0 co58 (f_errors_Is_ok a0 a1 _ r21 hr22) (args2 rfl rfl)) rfl ?_
 rintro _ M23 _ hle24 ⟨_, ⟨rfl, rfl⟩, rfl⟩
 refine WL.a0 ?_
 refine Pa (.bool r21) rfl rfl ?_
 refine Nt ?_
 refine WC.ret ?_
 exact WQ.returnsF h [] rfl (results1 rfl rfl) hle24 ⟨rfl, rfl⟩

noncomputable def f_frame_Stream_Err (a0 : T_frame_Stream) : Option GErr :=
  (some a0.err)
def f_frame_Stream_Err_post (a0 : T_frame_Stream) (v0_0 : Value) (g0 : Nat) : GErr → Value → IM → HL → Prop :=
  fun (r0 : GErr) (v : Value) (M' : IM) (H' : HL) => (GV r0) = v ∧ H' = [[(g0, .cells #[v0_0, (.int .i64 a0.gone), (GV a0.err)] 33 (0, 0))]]
theorem f_frame_Stream_Err_ok (a0 : T_frame_Stream) (M : IM) (v0_0 : Value) (g0 : Nat) (h0_0 : RS (Kd.int .u8) M v0_0 a0.b) (res : GErr) (h : f_frame_Stream_Err a0 = some res) :
    Tri Tryd.prog 15 #[(pt g0 0)] M [[(g0, .cells #[v0_0, (.int .i64 a0.gone), (GV a0.err)] 33 (0, 0))]] (f_frame_Stream_Err_post a0 v0_0 g0 res) := by
 unfold f_frame_Stream_Err at h
 refine Tri.enter (fn := Tryd.f15) Tryd.func15 rfl (Nat.le_of_ble_eq_true rfl) ?_
 intro F ρ hρ
 refine Sr ?_
 refine Pa (GV GErr.nil) rfl rfl ?_
 refine Ns ?_
 refine Pm (pt g0 0) (hρ 0) rfl ?_
 refine Pu (pt g0 0) (PO.nilCheck rfl) rfl ?_
 refine Pu (pt g0 2) (PO.fieldAddr fo33_2 rfl rfl) rfl ?_
 refine Pu (GV a0.err) (PO.loadB 0 pl28 rfl rfl rfl) rfl ?_
 refine Pa (GV a0.err) rfl rfl ?_
 refine Nt ?_
 refine WC.ret ?_
 exact WQ.returnsF h [[(g0, .cells #[v0_0, (.int .i64 a0.gone), (GV a0.err)] 33 (0, 0))]] rfl (results1 rfl rfl) (IM.le.refl _) ⟨rfl, rfl⟩

noncomputable def f_frame_Stream_Left (a0 : T_frame_Stream) : Option Int :=
  (some (a0.b.length : Int))
def f_frame_Stream_Left_post (a0 : T_frame_Stream) (v0_0 : Value) (g0 : Nat) : Int → Value → IM → HL → Prop :=
  fun (r0 : Int) (v : Value) (M' : IM) (H' : HL) => (.int .i64 r0) = v ∧ H' = [[(g0, .cells #[v0_0, (.int .i64 a0.gone), (GV a0.err)] 33 (0, 0))]]
theorem f_frame_Stream_Left_ok (a0 : T_frame_Stream) (M : IM) (v0_0 : Value) (g0 : Nat) (h0_0 : RS (Kd.int .u8) M v0_0 a0.b) (res : Int) (h : f_frame_Stream_Left a0 = some res) :
    Tri Tryd.prog 16 #[(pt g0 0)] M [[(g0, .cells #[v0_0, (.int .i64 a0.gone), (GV a0.err)] 33 (0, 0))]] (f_frame_Stream_Left_post a0 v0_0 g0 res) := by
 unfold f_frame_Stream_Left at h
 refine Tri.enter (fn := Tryd.f16) Tryd.func16 rfl (Nat.le_of_ble_eq_true rfl) ?_
 intro F ρ hρ
 refine Sr ?_
 refine Pa (.int .i64 0) rfl rfl ?_
 refine Ns ?_
 refine Pm (pt g0 0) (hρ 0) rfl ?_
 refine Pu (pt g0 0) (PO.nilCheck rfl) rfl ?_
 refine Pu (pt g0 0) (PO.fieldAddr fo33_0 rfl rfl) rfl ?_
 refine Pu v0_0 (PO.loadB 0 pl26 rfl rfl rfl) rfl ?_
 refine Pu (.int .i64 (a0.b.length : Int)) (PO.lenS Tryd.underlying26 rfl h0_0.len) rfl ?_
 refine Pa (.int .i64 (a0.b.length : Int)) rfl rfl ?_
 refine Nt ?_
 refine WC.ret ?_
 exact WQ.returnsF h [[(g0, .cells #[v0_0, (.int .i64 a0.gone), (GV a0.err)] 33 (0, 0))]] rfl (results1 rfl rfl) (IM.le.refl _) ⟨rfl, rfl⟩

noncomputable def f_law04_works : Option Bool :=
  ((f_frame_All [(⟨(3 : Int), [(7 : Int), (8 : Int)]⟩ : T_api_Frame), (⟨(9 : Int), []⟩ : T_api_Frame)]).bind fun (r32, r33) => ((f_frame_Put (⟨(64 : Int), []⟩ : T_api_Frame)).bind fun (r42, r43) => (if (decide ((r32.length : Int) ≠ (16 : Int))) = true then (some false) else (grd (0 ≤ (0 : Int) ∧ (0 : Int) ≤ (5 : Int) ∧ (5 : Int) ≤ (r32.length : Int)) ((f_frame_Stream_Feed (⟨[], (0 : Int), GErr.nil⟩ : T_frame_Stream) (sub r32 (0 : Int) (5 : Int))).bind fun (r57, r58, r59, r60) => (grd (0 ≤ (5 : Int) ∧ (5 : Int) ≤ (r32.length : Int) ∧ (r32.length : Int) ≤ (r32.length : Int)) ((f_frame_Stream_Feed (⟨r58, r59, r60⟩ : T_frame_Stream) (sub r32 (5 : Int) (r32.length : Int))).bind fun (r70, r71, r72, r73) => ((f_frame_Stream_Feed (⟨r71, r72, r73⟩ : T_frame_Stream) [(1 : Int)]).bind fun (r86, r87, r88, r89) => (((if r33.isNil = true then ((f_fault_Is r43 (5 : Int)).bind fun (r100 : Bool) => (if r100 = true then (if (decide ((r57.length : Int) = (0 : Int))) = true then (if (decide ((r70.length : Int) = (2 : Int))) = true then (grd (0 ≤ (0 : Int) ∧ (0 : Int) < r70.length) (if (decide (((rd r70 (0 : Int)).Kind) = (3 : Int))) = true then (grd (0 ≤ (0 : Int) ∧ (0 : Int) < r70.length) (if (decide ((((rd r70 (0 : Int)).Body).length : Int) = (2 : Int))) = true then (if (decide ((r86.length : Int) = (0 : Int))) = true then ((f_frame_Stream_Err (⟨r87, r88, r89⟩ : T_frame_Stream)).bind fun (r126 : GErr) => ((f_fault_Is r126 (5 : Int)).bind fun (r131 : Bool) => (if r131 = true then ((f_frame_Stream_Left (⟨r87, r88, r89⟩ : T_frame_Stream)).bind fun (r138 : Int) => (some (decide (r138 = (0 : Int))))) else (some false)))) else (some false)) else (some false))) else (some false))) else (some false)) else (some false)) else (some false))) else (some false)) : Option Bool).bind fun (x97 : Bool) => (some x97))))))))))
def f_law04_works_post : Bool → Value → IM → HL → Prop :=
  fun (r0 : Bool) (v : Value) (M' : IM) (H' : HL) => (.bool r0) = v ∧ H' = []
theorem f_law04_works_ok (M : IM) (hE : Env M) (res : Bool) (h : f_law04_works = some res) :
    Tri Tryd.prog 11 #[] M [] (f_law04_works_post res) := by
 unfold f_law04_works at h
 refine Tri.enter (fn := Tryd.f11) Tryd.func11 rfl (Nat.le_of_ble_eq_true rfl) ?_
 intro F ρ hρ
 refine Sr ?_
 refine Pa (.bool false) rfl rfl ?_
 refine Ns ?_
 refine WL.eff (EO.buildSliceL (cl := [(.int .u8 7), (.int .u8 8)]) Tryd.underlying26 iz5 rfl (Parts.cons (congrArg Value.cells (show ev _ _ = (.int .u8 7) from rfl)) (Parts.cons (congrArg Value.cells (show ev _ _ = (.int .u8 8) from rfl)) Parts.nil)) rfl) rfl ?_
 rintro _ _ _ - ⟨rfl, g21, rfl, rfl⟩
 have h23 : OwnS (Kd.int .u8) M (.slice (some ⟨g21, 0, none⟩) 2 2) [(7 : Int), (8 : Int)] [(g21, .cells #[(.int .u8 7), (.int .u8 8)] 5 (0, 0))] := OwnS.rows (css := [[(.int .u8 7)], [(.int .u8 8)]]) (Rows.cons rfl (Rows.cons rfl Rows.nil)) rfl rfl
 refine Pu (.agg #[(.int .i64 3), (.slice (some ⟨g21, 0, none⟩) 2 2)]) (PO.buildL (cl := [(.int .i64 3), (.slice (some ⟨g21, 0, none⟩) 2 2)]) ze40 fp40 (Parts.cons (congrArg Value.cells (show ev _ _ = (.int .i64 3) from rfl)) (Parts.cons ((congrArg Value.cells (show ev _ _ = (.slice (some ⟨g21, 0, none⟩) 2 2) from rfl)).trans h23.cells) Parts.nil)) rfl) rfl ?_
 refine Pu (.agg #[(.int .i64 9), (.slice none 0 0)]) (PO.buildL (cl := [(.int .i64 9), (.slice none 0 0)]) ze40 fp40 (Parts.cons (congrArg Value.cells (show ev _ _ = (.int .i64 9) from rfl)) Parts.nil) rfl) rfl ?_
 refine WL.know (fun _ hs => h23.rs hs) (fun hf28 => ?_)
 refine WL.freeze (fun hle27 => ?_)
 have hE := hE.mono hle27
 refine WL.eff (EO.buildSliceL (cl := [(.int .i64 3), (.slice (some ⟨g21, 0, none⟩) 2 2), (.int .i64 9), (.slice none 0 0)]) Tryd.underlying22 iz40 rfl (Parts.cons (congrArg Value.cells (show ev _ _ = (.agg #[(.int .i64 3), (.slice (some ⟨g21, 0, none⟩) 2 2)]) from rfl)) (Parts.cons (congrArg Value.cells (show ev _ _ = (.agg #[(.int .i64 9), (.slice none 0 0)]) from rfl)) Parts.nil)) rfl) rfl ?_
 rintro _ _ _ - ⟨rfl, g29, rfl, rfl⟩
 have h31 : OwnS kd_api_Frame (M.add [(g21, .cells #[(.int .u8 7), (.int .u8 8)] 5 (0, 0))]) (.slice (some ⟨g29, 0, none⟩) 2 2) [(⟨(3 : Int), [(7 : Int), (8 : Int)]⟩ : T_api_Frame), (⟨(9 : Int), []⟩ : T_api_Frame)] [(g29, .cells #[(.int .i64 3), (.slice (some ⟨g21, 0, none⟩) 2 2), (.int .i64 9), (.slice none 0 0)] 40 (0, 0))] := OwnS.rows (css := [[(.int .i64 3), (.slice (some ⟨g21, 0, none⟩) 2 2)], [(.int .i64 9), (.slice none 0 0)]]) (Rows.cons (kd_api_Frame_mk (x := (⟨(3 : Int), [(7 : Int), (8 : Int)]⟩ : T_api_Frame)) hf28) (Rows.cons (kd_api_Frame_mk (x := (⟨(9 : Int), []⟩ : T_api_Frame)) (RS.nil _ _)) Rows.nil)) rfl rfl
 obtain ⟨⟨r32, r33⟩, hr34, h⟩ := bnd h
 refine WL.eff (EO.call1 co12 (Tri.lend h31.excl fun w0_ H0_ hs0_ => (f_frame_All_ok [(⟨(3 : Int), [(7 : Int), (8 : Int)]⟩ : T_api_Frame), (⟨(9 : Int), []⟩ : T_api_Frame)] _ _ (h31.rs hs0_) (r32, r33) hr34)) (args1 rfl)) rfl ?_
 rintro _ _ _ hle36 ⟨_, ⟨Ml39, Hl40, hll41, rfl, rfl, ⟨vq37, cq37, rfl, rfl, hq37⟩⟩, rfl⟩
 have hf28 := hf28.mono hle36
 have h31 := h31.mono hle36
 have hE := hE.mono hle36
 have hq37 : OwnS (Kd.int .u8) (Ml39.minus [(g29, .cells #[(.int .i64 3), (.slice (some ⟨g21, 0, none⟩) 2 2), (.int .i64 9), (.slice none 0 0)] 40 (0, 0))]) vq37 r32 cq37 := hq37.any (Kd.int_flat _)
 refine WL.a2 ?_
 refine Pm (.tuple #[vq37, (GV r33)]) rfl rfl ?_
 refine Pu vq37 (PO.extract rfl rfl) rfl ?_
 refine Pu (GV r33) (PO.extract rfl rfl) rfl ?_
 refine Pa vq37 rfl rfl ?_
 refine Pa (GV r33) rfl rfl ?_
 refine Ns ?_
 refine Pu (.agg #[(.int .i64 64), (.slice none 0 0)]) (PO.buildL (cl := [(.int .i64 64), (.slice none 0 0)]) ze40 fp40 (Parts.cons (congrArg Value.cells (show ev _ _ = (.int .i64 64) from rfl)) Parts.nil) rfl) rfl ?_
 obtain ⟨⟨r42, r43⟩, hr44, h⟩ := bnd h
 refine WL.eff (EO.call0 co17 (f_frame_Put_ok (⟨(64 : Int), []⟩ : T_api_Frame) _ _ (RS.nil _ _) (r42, r43) hr44) (args1 rfl)) rfl ?_
 rintro _ M45 _ hle46 ⟨_, ⟨vq47, cq47, rfl, rfl, hq47⟩, rfl⟩
 have hq37 := hq37.mono hle46
 have hE := hE.mono hle46
 refine WL.a1 ?_
 refine Pm (.tuple #[vq47, (GV r43)]) rfl rfl ?_
 refine Pu vq47 (PO.extract rfl rfl) rfl ?_
 refine Pu (GV r43) (PO.extract rfl rfl) rfl ?_
 refine Pa vq47 rfl rfl ?_
 refine Pa (GV r43) rfl rfl ?_
 refine Ns ?_
 refine Pu (.agg #[(.slice none 0 0), (.int .i64 0), (GV GErr.nil)]) (PO.buildL (cl := [(.slice none 0 0), (.int .i64 0), (GV GErr.nil)]) ze33 fp33 Parts.nil rfl) rfl ?_
 refine WL.eff (EO.box (cs := #[(.slice none 0 0), (.int .i64 0), (GV GErr.nil)]) (congrArg Value.cells (show ev _ _ = (.agg #[(.slice none 0 0), (.int .i64 0), (GV GErr.nil)]) from rfl))) rfl ?_
 rintro _ _ _ - ⟨rfl, g49, rfl, rfl⟩
 refine Pa (pt g49 0) rfl rfl ?_
 refine Nt ?_
 refine WC.seq ?_
 refine Sr ?_
 refine Pm vq37 rfl rfl ?_
 refine Pu (.int .i64 (r32.length : Int)) (PO.lenS Tryd.underlying26 rfl hq37.len) rfl ?_
 refine Pu (.bool (decide ((r32.length : Int) ≠ (16 : Int)))) (PO.neq rfl rfl) rfl ?_
 refine Nt ?_
 refine WC.cond (b := decide ((r32.length : Int) ≠ (16 : Int))) rfl (fun hb50 => ?_) (fun hb50 => ?_)
 have h := ite_t hb50 h
 refine Sr ?_
 refine Pa (.bool false) rfl rfl ?_
 refine Nt ?_
 refine WC.ret ?_
 refine WQ.thenR ?_
 refine WQ.drop ?_
 refine WQ.drop ?_
 refine WQ.drop ?_
 refine WQ.drop ?_
 exact WQ.returnsF h [] rfl (results1 rfl rfl) ((hle27.trans hle36).trans hle46) ⟨rfl, rfl⟩
 have h := ite_f hb50 h
 refine WC.skip ?_
 refine WQ.thenC ?_
 refine Sr ?_
 refine Pm (pt g49 0) rfl rfl ?_
 refine Pm vq37 rfl rfl ?_
 obtain ⟨hg51, h⟩ := grd_i h
 have h52 := hq37.sub hg51.1 hg51.2.1 hg51.2.2
 refine Pu (slV vq37 1 ((0 : Int)).toNat ((5 : Int)).toNat) (PO.slice (n := r32.length) (l := ((0 : Int)).toNat) (h := ((5 : Int)).toNat) Tryd.underlying26 sz5 rfl hq37.len hq37.cap (bound0 rfl) ⟨_, _, rfl, (Int.le_trans hg51.1 hg51.2.1), rfl⟩ (Int.toNat_le_toNat hg51.2.1) (toNat_le_len hg51.2.2)) rfl ?_
 refine WL.f3 ?_
 refine WL.know (fun _ hs => hq37.rs hs) (fun hf54 => ?_)
 refine WL.know (fun _ hs => h52.rs hs) (fun hf55 => ?_)
 refine WL.freeze (fun hle53 => ?_)
 have hE := hE.mono hle53
 obtain ⟨⟨r57, r58, r59, r60⟩, hr61, h⟩ := bnd h
 refine WL.e0 ?_
 refine WL.f1 ?_
 refine WL.eff (EO.call2 co13 (f_frame_Stream_Feed_ok (⟨[], (0 : Int), GErr.nil⟩ : T_frame_Stream) (sub r32 (0 : Int) (5 : Int)) _ _ _ _ _ (OwnSh.nil _ _) hf55 hE (r57, r58, r59, r60) hr61) (args2 rfl rfl)) rfl ?_
 rintro _ M62 _ hle63 ⟨_, ⟨v64, c66, vq67, cq67, rfl, rfl, h65, hq67⟩, rfl⟩
 have hf54 := hf54.mono hle63
 have hf55 := hf55.mono hle63
 have hE := hE.mono hle63
 refine WL.a3 ?_
 refine Pa vq67 rfl rfl ?_
 refine Ns ?_
 refine Pm (pt g49 0) rfl rfl ?_
 refine Pm vq37 rfl rfl ?_
 obtain ⟨hg68, h⟩ := grd_i h
 have h69 := hf54.sub hg68.1 hg68.2.1 hg68.2.2
 refine Pu (slV vq37 1 ((5 : Int)).toNat ((r32.length : Int)).toNat) (PO.slice (n := r32.length) (l := ((5 : Int)).toNat) (h := ((r32.length : Int)).toNat) Tryd.underlying26 sz5 rfl hf54.len hf54.cap ⟨_, _, rfl, hg68.1, rfl⟩ (boundN_ rfl) (Int.toNat_le_toNat hg68.2.1) (toNat_le_len hg68.2.2)) rfl ?_
 obtain ⟨⟨r70, r71, r72, r73⟩, hr74, h⟩ := bnd h
 refine WL.f1 ?_
 refine WL.f1 ?_
 refine WL.eff (EO.call2 co13 (f_frame_Stream_Feed_ok (⟨r58, r59, r60⟩ : T_frame_Stream) (sub r32 (5 : Int) (r32.length : Int)) _ _ _ _ _ h65 h69 hE (r70, r71, r72, r73) hr74) (args2 rfl rfl)) rfl ?_
 rintro _ M75 _ hle76 ⟨_, ⟨v77, c79, vq80, cq80, rfl, rfl, h78, hq80⟩, rfl⟩
 have hf54 := hf54.mono hle76
 have hq67 := hq67.mono hle76
 have h69 := h69.mono hle76
 have h65 := h65.mono hle76
 have hE := hE.mono hle76
 refine WL.a3 ?_
 refine Pa vq80 rfl rfl ?_
 refine Ns ?_
 refine Pm (pt g49 0) rfl rfl ?_
 refine WL.eff (EO.buildSliceL (cl := [(.int .u8 1)]) Tryd.underlying26 iz5 rfl (Parts.cons (congrArg Value.cells (show ev _ _ = (.int .u8 1) from rfl)) Parts.nil) rfl) rfl ?_
 rintro _ _ _ - ⟨rfl, g81, rfl, rfl⟩
 have h83 : OwnS (Kd.int .u8) M75 (.slice (some ⟨g81, 0, none⟩) 1 1) [(1 : Int)] [(g81, .cells #[(.int .u8 1)] 5 (0, 0))] := OwnS.rows (css := [[(.int .u8 1)]]) (Rows.cons rfl Rows.nil) rfl rfl
 refine WL.know (fun _ hs => h83.rs hs) (fun hf85 => ?_)
 refine WL.freeze (fun hle84 => ?_)
 have hq67 := hq67.mono hle84
 have hq80 := hq80.mono hle84
 have h78 := h78.mono hle84
 have hE := hE.mono hle84
 obtain ⟨⟨r86, r87, r88, r89⟩, hr90, h⟩ := bnd h
 refine WL.f1 ?_
 refine WL.f1 ?_
 refine WL.eff (EO.call2 co13 (f_frame_Stream_Feed_ok (⟨r71, r72, r73⟩ : T_frame_Stream) [(1 : Int)] _ _ _ _ _ h78 hf85 hE (r86, r87, r88, r89) hr90) (args2 rfl rfl)) rfl ?_
 rintro _ M91 _ hle92 ⟨_, ⟨v93, c95, vq96, cq96, rfl, rfl, h94, hq96⟩, rfl⟩
 have hq67 := hq67.mono hle92
 have hq80 := hq80.mono hle92
 have hf85 := hf85.mono hle92
 have h78 := h78.mono hle92
 have hE := hE.mono hle92
 refine WL.a3 ?_
 refine Pa vq96 rfl rfl ?_
 refine Nt ?_
 obtain ⟨x97, hj98, h⟩ := bnd h
 refine WC.joinF (fun (x97 : Bool) ρ' M' H' => M91.le M' ∧ [(g49, .cells #[v93, (.int .i64 r88), (GV r89)] 33 (0, 0))] :: c95 :: F = H' ∧ ρ' 0 = (.bool x97)) x97 ?_ ?_
 have h398 := h
 have h := hj98
 refine WC.region ?_
 refine Pm (GV r33) rfl rfl ?_
 refine Pu (.bool r33.isNil) (PO.errNil Tryd.underlying28 rfl) rfl ?_
 refine Pm (.bool r33.isNil) rfl rfl ?_
 rcases Bool.eq_false_or_eq_true (r33.isNil) with hb99 | hb99
 have h := ite_t hb99 h
 refine On 40 rfl rfl hb99 ?_
 refine Pm (GV r43) rfl rfl ?_
 refine On 40 rfl rfl hb99 ?_
 obtain ⟨r100, hr101, h⟩ := bnd h
 refine WL.eff (EO.call0 co35 (f_fault_Is_ok r43 (5 : Int) _ r100 hr101) (args2 rfl rfl)) rfl ?_
 rintro _ M102 _ hle103 ⟨_, ⟨rfl, rfl⟩, rfl⟩
 have hq67 := hq67.mono hle103
 have hq80 := hq80.mono hle103
 have hq96 := hq96.mono hle103
 have h94 := h94.mono hle103
 have hE := hE.mono hle103
 refine WL.a0 ?_
 refine Pu (.bool r100) (PO.pickT rfl hb99 rfl) rfl ?_
 refine Pm (.bool r100) rfl rfl ?_
 rcases Bool.eq_false_or_eq_true (r100) with hb105 | hb105
 have h := ite_t hb105 h
 refine On 44 rfl rfl hb105 ?_
 refine Pm vq67 rfl rfl ?_
 refine On 44 rfl rfl hb105 ?_
 refine Pu (.int .i64 (r57.length : Int)) (PO.lenS Tryd.underlying22 rfl hq67.len) rfl ?_
 refine On 44 rfl rfl hb105 ?_
 refine Pu (.bool (decide ((r57.length : Int) = (0 : Int)))) (PO.eql rfl rfl) rfl ?_
 refine Pu (.bool (decide ((r57.length : Int) = (0 : Int)))) (PO.pickT rfl hb105 rfl) rfl ?_
 refine Pm (.bool (decide ((r57.length : Int) = (0 : Int)))) rfl rfl ?_
 rcases Bool.eq_false_or_eq_true (decide ((r57.length : Int) = (0 : Int))) with hb106 | hb106
 have h := ite_t hb106 h
 refine On 49 rfl rfl hb106 ?_
 refine Pm vq80 rfl rfl ?_
 refine On 49 rfl rfl hb106 ?_
 refine Pu (.int .i64 (r70.length : Int)) (PO.lenS Tryd.underlying22 rfl hq80.len) rfl ?_
 refine On 49 rfl rfl hb106 ?_
 refine Pu (.bool (decide ((r70.length : Int) = (2 : Int)))) (PO.eql rfl rfl) rfl ?_
 refine Pu (.bool (decide ((r70.length : Int) = (2 : Int)))) (PO.pickT rfl hb106 rfl) rfl ?_
 refine Pm (.bool (decide ((r70.length : Int) = (2 : Int)))) rfl rfl ?_
 rcases Bool.eq_false_or_eq_true (decide ((r70.length : Int) = (2 : Int))) with hb107 | hb107
 have h := ite_t hb107 h
 refine On 54 rfl rfl hb107 ?_
 refine Pm vq80 rfl rfl ?_
 refine On 54 rfl rfl hb107 ?_
 obtain ⟨hg108, h⟩ := grd_i h
 obtain ⟨p109, cs110, hat111, hrc112, hhas113⟩ := hq80.at hg108.1 hg108.2
 obtain ⟨vw114_1, rfl, hw114_1⟩ := kd_api_Frame_open hrc112
 refine Pu (.pointer (some p109)) (PO.indexAddr (n := r70.length) Tryd.underlying22 sz40 rfl rfl hg108.1 hg108.2 hat111) rfl ?_
 refine On 54 rfl rfl hb107 ?_
 refine Pu (.pointer (some (p109.add 0))) (PO.fieldAddr fo40_0 rfl rfl) rfl ?_
 refine On 54 rfl rfl hb107 ?_
 refine Pu (.int .i64 ((rd r70 (0 : Int)).Kind)) (PO.loadC 3 pl3 rfl rfl (chunkHas0 hhas113)) rfl ?_
 refine On 54 rfl rfl hb107 ?_
 refine Pu (.bool (decide (((rd r70 (0 : Int)).Kind) = 3))) (PO.eql rfl rfl) rfl ?_
 refine Pu (.bool (decide (((rd r70 (0 : Int)).Kind) = 3))) (PO.pickT rfl hb107 rfl) rfl ?_
 refine Pm (.bool (decide (((rd r70 (0 : Int)).Kind) = 3))) rfl rfl ?_
 rcases Bool.eq_false_or_eq_true (decide (((rd r70 (0 : Int)).Kind) = 3)) with hb115 | hb115
 have h := ite_t hb115 h
 refine On 61 rfl rfl hb115 ?_
 refine Pm vq80 rfl rfl ?_
 refine On 61 rfl rfl hb115 ?_
 obtain ⟨hg116, h⟩ := grd_i h
 obtain ⟨p117, cs118, hat119, hrc120, hhas121⟩ := hq80.at hg116.1 hg116.2
 obtain ⟨vw122_1, rfl, hw122_1⟩ := kd_api_Frame_open hrc120
 refine Pu (.pointer (some p117)) (PO.indexAddr (n := r70.length) Tryd.underlying22 sz40 rfl rfl hg116.1 hg116.2 hat119) rfl ?_
 refine On 61 rfl rfl hb115 ?_
 refine Pu (.pointer (some (p117.add 1))) (PO.fieldAddr fo40_1 rfl rfl) rfl ?_
 refine On 61 rfl rfl hb115 ?_
 refine Pu vw122_1 (PO.loadC 3 pl26 rfl rfl (hhas121 1 _ rfl)) rfl ?_
 refine On 61 rfl rfl hb115 ?_
 refine Pu (.int .i64 (((rd r70 (0 : Int)).Body).length : Int)) (PO.lenS Tryd.underlying26 rfl hw122_1.len) rfl ?_
 refine On 61 rfl rfl hb115 ?_
 refine Pu (.bool (decide ((((rd r70 (0 : Int)).Body).length : Int) = (2 : Int)))) (PO.eql rfl rfl) rfl ?_
 refine Pu (.bool (decide ((((rd r70 (0 : Int)).Body).length : Int) = (2 : Int)))) (PO.pickT rfl hb115 rfl) rfl ?_
 refine Pm (.bool (decide ((((rd r70 (0 : Int)).Body).length : Int) = (2 : Int)))) rfl rfl ?_
 rcases Bool.eq_false_or_eq_true (decide ((((rd r70 (0 : Int)).Body).length : Int) = (2 : Int))) with hb123 | hb123
 have h := ite_t hb123 h
 refine On 69 rfl rfl hb123 ?_
 refine Pm vq96 rfl rfl ?_
 refine On 69 rfl rfl hb123 ?_
 refine Pu (.int .i64 (r86.length : Int)) (PO.lenS Tryd.underlying22 rfl hq96.len) rfl ?_
 refine On 69 rfl rfl hb123 ?_
 refine Pu (.bool (decide ((r86.length : Int) = (0 : Int)))) (PO.eql rfl rfl) rfl ?_
 refine Pu (.bool (decide ((r86.length : Int) = (0 : Int)))) (PO.pickT rfl hb123 rfl) rfl ?_
 refine Pm (.bool (decide ((r86.length : Int) = (0 : Int)))) rfl rfl ?_
 rcases Bool.eq_false_or_eq_true (decide ((r86.length : Int) = (0 : Int))) with hb124 | hb124
 have h := ite_t hb124 h
 refine On 74 rfl rfl hb124 ?_
 refine Pm (pt g49 0) rfl rfl ?_
 refine On 74 rfl rfl hb124 ?_
 obtain ⟨r126, hr127, h⟩ := bnd h
 refine WL.know (fun _ hs => h94.rs (hs.front 1 rfl)) (fun hf125 => ?_)
 refine WL.eff (EO.call1 co15 (f_frame_Stream_Err_ok (⟨r87, r88, r89⟩ : T_frame_Stream) _ _ _ hf125 r126 hr127) (args1 rfl)) rfl ?_
 rintro _ M128 _ hle129 ⟨_, ⟨rfl, rfl⟩, rfl⟩
 have hq67 := hq67.mono hle129
 have hq80 := hq80.mono hle129
 have hq96 := hq96.mono hle129
 have hw114_1 := hw114_1.mono hle129
 have hw122_1 := hw122_1.mono hle129
 have h94 := h94.mono hle129
 have hE := hE.mono hle129
 refine WL.a1 ?_
 refine On 74 rfl rfl hb124 ?_
 obtain ⟨r131, hr132, h⟩ := bnd h
 refine WL.eff (EO.call0 co35 (f_fault_Is_ok r126 (5 : Int) _ r131 hr132) (args2 rfl rfl)) rfl ?_
 rintro _ M133 _ hle134 ⟨_, ⟨rfl, rfl⟩, rfl⟩
 have hq67 := hq67.mono hle134
 have hq80 := hq80.mono hle134
 have hq96 := hq96.mono hle134
 have hw114_1 := hw114_1.mono hle134
 have hw122_1 := hw122_1.mono hle134
 have h94 := h94.mono hle134
 have hE := hE.mono hle134
 refine WL.a0 ?_
 refine Pu (.bool r131) (PO.pickT rfl hb124 rfl) rfl ?_
 refine Pm (.bool r131) rfl rfl ?_
 rcases Bool.eq_false_or_eq_true (r131) with hb136 | hb136
 have h := ite_t hb136 h
 refine On 79 rfl rfl hb136 ?_
 refine Pm (pt g49 0) rfl rfl ?_
 refine On 79 rfl rfl hb136 ?_
 obtain ⟨r138, hr139, h⟩ := bnd h
 refine WL.know (fun _ hs => h94.rs (hs.front 1 rfl)) (fun hf137 => ?_)
 refine WL.eff (EO.call1 co16 (f_frame_Stream_Left_ok (⟨r87, r88, r89⟩ : T_frame_Stream) _ _ _ hf137 r138 hr139) (args1 rfl)) rfl ?_
 rintro _ M140 _ hle141 ⟨_, ⟨rfl, rfl⟩, rfl⟩
 have hq67 := hq67.mono hle141
 have hq80 := hq80.mono hle141
 have hq96 := hq96.mono hle141
 have hw114_1 := hw114_1.mono hle141
 have hw122_1 := hw122_1.mono hle141
 have h94 := h94.mono hle141
 have hE := hE.mono hle141
 refine WL.a1 ?_
 refine On 79 rfl rfl hb136 ?_
 refine Pu (.bool (decide (r138 = 0))) (PO.eql rfl rfl) rfl ?_
 refine Pu (.bool (decide (r138 = 0))) (PO.pickT rfl hb136 rfl) rfl ?_
 refine Pa (.bool (decide (r138 = 0))) rfl rfl ?_
 refine WL.nil ?_
 refine WQ.f2 ?_
 refine WQ.drop ?_
 refine WQ.f2 ?_
 refine WQ.drop ?_
 refine WQ.f2 ?_
 refine WQ.drop ?_
 refine WQ.f2 ?_
 refine WQ.drop ?_
 refine WQ.f2 ?_
 refine WQ.drop ?_
 obtain rfl := Option.some.inj h
 refine WQ.thenJ ?_
 exact ⟨(((hle103.trans hle129).trans hle134).trans hle141), rfl, rfl⟩
 have h := ite_f hb136 h
 iterate 3 refine Of 79 rfl rfl hb136 rfl ?_
 refine Pu (.bool false) (PO.pickF rfl hb136 rfl) rfl ?_
 refine Pa (.bool false) rfl rfl ?_
 refine WL.nil ?_
 refine WQ.f2 ?_
 refine WQ.drop ?_
 refine WQ.f2 ?_
 refine WQ.drop ?_
 refine WQ.f2 ?_
 refine WQ.drop ?_
 refine WQ.f2 ?_
 refine WQ.drop ?_
 refine WQ.f2 ?_
 refine WQ.drop ?_
 obtain rfl := Option.some.inj h
 refine WQ.thenJ ?_
 exact ⟨((hle103.trans hle129).trans hle134), rfl, rfl⟩
 have h := ite_f hb124 h
 iterate 3 refine Of 74 rfl rfl hb124 rfl ?_
 refine Pu (.bool false) (PO.pickF rfl hb124 rfl) rfl ?_
 refine Pm (.bool false) rfl rfl ?_
 iterate 3 refine Of 79 rfl rfl rfl rfl ?_
 refine Pu (.bool false) (PO.pickF rfl rfl rfl) rfl ?_
 refine Pa (.bool false) rfl rfl ?_
 refine WL.nil ?_
 refine WQ.f2 ?_
 refine WQ.drop ?_
 refine WQ.f2 ?_
 refine WQ.drop ?_
 refine WQ.f2 ?_
 refine WQ.drop ?_
 refine WQ.f2 ?_
 refine WQ.drop ?_
 refine WQ.f2 ?_
 refine WQ.drop ?_
 obtain rfl := Option.some.inj h
 refine WQ.thenJ ?_
 exact ⟨hle103, rfl, rfl⟩
 have h := ite_f hb123 h
 iterate 3 refine Of 69 rfl rfl hb123 rfl ?_
 refine Pu (.bool false) (PO.pickF rfl hb123 rfl) rfl ?_
 refine Pm (.bool false) rfl rfl ?_
 iterate 3 refine Of 74 rfl rfl rfl rfl ?_
 refine Pu (.bool false) (PO.pickF rfl rfl rfl) rfl ?_
 refine Pm (.bool false) rfl rfl ?_
 iterate 3 refine Of 79 rfl rfl rfl rfl ?_
 refine Pu (.bool false) (PO.pickF rfl rfl rfl) rfl ?_
 refine Pa (.bool false) rfl rfl ?_
 refine WL.nil ?_
 refine WQ.f2 ?_
 refine WQ.drop ?_
 refine WQ.f2 ?_
 refine WQ.drop ?_
 refine WQ.f2 ?_
 refine WQ.drop ?_
 refine WQ.f2 ?_
 refine WQ.drop ?_
 refine WQ.f2 ?_
 refine WQ.drop ?_
 obtain rfl := Option.some.inj h
 refine WQ.thenJ ?_
 exact ⟨hle103, rfl, rfl⟩
 have h := ite_f hb115 h
 iterate 6 refine Of 61 rfl rfl hb115 rfl ?_
 refine Pu (.bool false) (PO.pickF rfl hb115 rfl) rfl ?_
 refine Pm (.bool false) rfl rfl ?_
 iterate 3 refine Of 69 rfl rfl rfl rfl ?_
 refine Pu (.bool false) (PO.pickF rfl rfl rfl) rfl ?_
 refine Pm (.bool false) rfl rfl ?_
 iterate 3 refine Of 74 rfl rfl rfl rfl ?_
 refine Pu (.bool false) (PO.pickF rfl rfl rfl) rfl ?_
 refine Pm (.bool false) rfl rfl ?_
 iterate 3 refine Of 79 rfl rfl rfl rfl ?_
 refine Pu (.bool false) (PO.pickF rfl rfl rfl) rfl ?_
 refine Pa (.bool false) rfl rfl ?_
 refine WL.nil ?_
 refine WQ.f2 ?_
 refine WQ.drop ?_
 refine WQ.f2 ?_
 refine WQ.drop ?_
 refine WQ.f2 ?_
 refine WQ.drop ?_
 refine WQ.f2 ?_
 refine WQ.drop ?_
 refine WQ.f2 ?_
 refine WQ.drop ?_
 obtain rfl := Option.some.inj h
 refine WQ.thenJ ?_
 exact ⟨hle103, rfl, rfl⟩
 have h := ite_f hb107 h
 iterate 5 refine Of 54 rfl rfl hb107 rfl ?_
 refine Pu (.bool false) (PO.pickF rfl hb107 rfl) rfl ?_
 refine Pm (.bool false) rfl rfl ?_
 iterate 6 refine Of 61 rfl rfl rfl rfl ?_
 refine Pu (.bool false) (PO.pickF rfl rfl rfl) rfl ?_
 refine Pm (.bool false) rfl rfl ?_
 iterate 3 refine Of 69 rfl rfl rfl rfl ?_
 refine Pu (.bool false) (PO.pickF rfl rfl rfl) rfl ?_
 refine Pm (.bool false) rfl rfl ?_
 iterate 3 refine Of 74 rfl rfl rfl rfl ?_
 refine Pu (.bool false) (PO.pickF rfl rfl rfl) rfl ?_
 refine Pm (.bool false) rfl rfl ?_
 iterate 3 refine Of 79 rfl rfl rfl rfl ?_
 refine Pu (.bool false) (PO.pickF rfl rfl rfl) rfl ?_
 refine Pa (.bool false) rfl rfl ?_
 refine WL.nil ?_
 refine WQ.f2 ?_
 refine WQ.drop ?_
 refine WQ.f2 ?_
 refine WQ.drop ?_
 refine WQ.f2 ?_
 refine WQ.drop ?_
 refine WQ.f2 ?_
 refine WQ.drop ?_
 refine WQ.f2 ?_
 refine WQ.drop ?_
 obtain rfl := Option.some.inj h
 refine WQ.thenJ ?_
 exact ⟨hle103, rfl, rfl⟩
 have h := ite_f hb106 h
 iterate 3 refine Of 49 rfl rfl hb106 rfl ?_
 refine Pu (.bool false) (PO.pickF rfl hb106 rfl) rfl ?_
 refine Pm (.bool false) rfl rfl ?_
 iterate 5 refine Of 54 rfl rfl rfl rfl ?_
 refine Pu (.bool false) (PO.pickF rfl rfl rfl) rfl ?_
 refine Pm (.bool false) rfl rfl ?_
 iterate 6 refine Of 61 rfl rfl rfl rfl ?_
 refine Pu (.bool false) (PO.pickF rfl rfl rfl) rfl ?_
 refine Pm (.bool false) rfl rfl ?_
 iterate 3 refine Of 69 rfl rfl rfl rfl ?_
 refine Pu (.bool false) (PO.pickF rfl rfl rfl) rfl ?_
 refine Pm (.bool false) rfl rfl ?_
 iterate 3 refine Of 74 rfl rfl rfl rfl ?_
 refine Pu (.bool false) (PO.pickF rfl rfl rfl) rfl ?_
 refine Pm (.bool false) rfl rfl ?_
 iterate 3 refine Of 79 rfl rfl rfl rfl ?_
 refine Pu (.bool false) (PO.pickF rfl rfl rfl) rfl ?_
 refine Pa (.bool false) rfl rfl ?_
 refine WL.nil ?_
 refine WQ.f2 ?_
 refine WQ.drop ?_
 refine WQ.f2 ?_
 refine WQ.drop ?_
 refine WQ.f2 ?_
 refine WQ.drop ?_
 refine WQ.f2 ?_
 refine WQ.drop ?_
 refine WQ.f2 ?_
 refine WQ.drop ?_
 obtain rfl := Option.some.inj h
 refine WQ.thenJ ?_
 exact ⟨hle103, rfl, rfl⟩
 have h := ite_f hb105 h
 iterate 3 refine Of 44 rfl rfl hb105 rfl ?_
 refine Pu (.bool false) (PO.pickF rfl hb105 rfl) rfl ?_
 refine Pm (.bool false) rfl rfl ?_
 iterate 3 refine Of 49 rfl rfl rfl rfl ?_
 refine Pu (.bool false) (PO.pickF rfl rfl rfl) rfl ?_
 refine Pm (.bool false) rfl rfl ?_
 iterate 5 refine Of 54 rfl rfl rfl rfl ?_
 refine Pu (.bool false) (PO.pickF rfl rfl rfl) rfl ?_
 refine Pm (.bool false) rfl rfl ?_
 iterate 6 refine Of 61 rfl rfl rfl rfl ?_
 refine Pu (.bool false) (PO.pickF rfl rfl rfl) rfl ?_
 refine Pm (.bool false) rfl rfl ?_
 iterate 3 refine Of 69 rfl rfl rfl rfl ?_
 refine Pu (.bool false) (PO.pickF rfl rfl rfl) rfl ?_
 refine Pm (.bool false) rfl rfl ?_
 iterate 3 refine Of 74 rfl rfl rfl rfl ?_
 refine Pu (.bool false) (PO.pickF rfl rfl rfl) rfl ?_
 refine Pm (.bool false) rfl rfl ?_
 iterate 3 refine Of 79 rfl rfl rfl rfl ?_
 refine Pu (.bool false) (PO.pickF rfl rfl rfl) rfl ?_
 refine Pa (.bool false) rfl rfl ?_
 refine WL.nil ?_
 refine WQ.f2 ?_
 refine WQ.drop ?_
 refine WQ.f2 ?_
 refine WQ.drop ?_
 refine WQ.f2 ?_
 refine WQ.drop ?_
 refine WQ.f2 ?_
 refine WQ.drop ?_
 refine WQ.f2 ?_
 refine WQ.drop ?_
 obtain rfl := Option.some.inj h
 refine WQ.thenJ ?_
 exact ⟨hle103, rfl, rfl⟩
 have h := ite_f hb99 h
 iterate 2 refine Of 40 rfl rfl hb99 rfl ?_
 refine Pu (.bool false) (PO.pickF rfl hb99 rfl) rfl ?_
 refine Pm (.bool false) rfl rfl ?_
 iterate 3 refine Of 44 rfl rfl rfl rfl ?_
 refine Pu (.bool false) (PO.pickF rfl rfl rfl) rfl ?_
 refine Pm (.bool false) rfl rfl ?_
 iterate 3 refine Of 49 rfl rfl rfl rfl ?_
 refine Pu (.bool false) (PO.pickF rfl rfl rfl) rfl ?_
 refine Pm (.bool false) rfl rfl ?_
 iterate 5 refine Of 54 rfl rfl rfl rfl ?_
 refine Pu (.bool false) (PO.pickF rfl rfl rfl) rfl ?_
 refine Pm (.bool false) rfl rfl ?_
 iterate 6 refine Of 61 rfl rfl rfl rfl ?_
 refine Pu (.bool false) (PO.pickF rfl rfl rfl) rfl ?_
 refine Pm (.bool false) rfl rfl ?_
 iterate 3 refine Of 69 rfl rfl rfl rfl ?_
 refine Pu (.bool false) (PO.pickF rfl rfl rfl) rfl ?_
 refine Pm (.bool false) rfl rfl ?_
 iterate 3 refine Of 74 rfl rfl rfl rfl ?_
 refine Pu (.bool false) (PO.pickF rfl rfl rfl) rfl ?_
 refine Pm (.bool false) rfl rfl ?_
 iterate 3 refine Of 79 rfl rfl rfl rfl ?_
 refine Pu (.bool false) (PO.pickF rfl rfl rfl) rfl ?_
 refine Pa (.bool false) rfl rfl ?_
 refine WL.nil ?_
 refine WQ.f2 ?_
 refine WQ.drop ?_
 refine WQ.f2 ?_
 refine WQ.drop ?_
 refine WQ.f2 ?_
 refine WQ.drop ?_
 refine WQ.f2 ?_
 refine WQ.drop ?_
 refine WQ.f2 ?_
 refine WQ.drop ?_
 obtain rfl := Option.some.inj h
 refine WQ.thenJ ?_
 exact ⟨(IM.le.refl _), rfl, rfl⟩
 rintro ρ98 M98 H98 ⟨hle98, rfl, hs98_0⟩
 have h94 := h94.mono hle98
 have hE := hE.mono hle98
 refine WC.ret ?_
 refine WQ.drop ?_
 refine WQ.drop ?_
 exact WQ.returnsF h [] rfl (results1 rfl hs98_0) ((((((((hle27.trans hle36).trans hle46).trans hle53).trans hle63).trans hle76).trans hle84).trans hle92).trans hle98) ⟨rfl, rfl⟩


end Go.Proofs.YtjiffdgidodebaaDoor.G
