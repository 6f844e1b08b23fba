/- Go functions: what they come to, and that they do. Printed by a program of the session (gen). -/
import Derived.Test.YtjiffdgidodebaaGreatDoorPF
import Derived.Test.YtjiffdgidodebaaGreatDoorP3
import Derived.Test.YtjiffdgidodebaaGreatDoorKShar2
import Derived.Test.YtjiffdgidodebaaGreatDoorKConv
set_option linter.unusedVariables false
set_option linter.unusedSimpArgs false
set_option maxHeartbeats 8000000
set_option maxRecDepth 100000
namespace Go.Proofs.YtjiffdgidodebaaGreatDoor.G
open Go Go.KK

noncomputable def f_wire_Row_l0 (a1 : (List Int)) (s_ : ((List Int) × Int)) : Option (((List Int) × Int) ⊕ (List Int)) :=
  match s_ with
  | (x29, x30) =>
    (if (decide (x30 < (a1.length : Int))) = true then (grd (0 ≤ x30 ∧ x30 < a1.length) ((f_wire_Int x29 (rd a1 x30)).bind fun (r40 : (List Int)) => (some (Sum.inl (r40, IntKind.i64.wrap (x30 + (1 : Int))))))) else (some (Sum.inr x29)))
noncomputable def f_wire_Row (a0 : (List Int)) (a1 : (List Int)) : Option (List Int) :=
  ((f_wire_Int a0 (a1.length : Int)).bind fun (r21 : (List Int)) => ((((iter (f_wire_Row_l0 a1) (r21, (0 : Int))).bind (fun (x31 : (List Int)) => (some x31))) : Option (List Int)).bind fun (x26 : (List Int)) => (some x26)))
def f_wire_Row_post (a0 : (List Int)) (a1 : (List Int)) (v0 v1 : Value) : (List Int) → Value → IM → HL → Prop :=
  fun (r0 : (List Int)) (v : Value) (M' : IM) (H' : HL) => ∃ vz0 cz0, vz0 = v ∧ H' = [cz0] ∧ OwnS (Kd.int .u8) M' vz0 r0 cz0
theorem f_wire_Row_ok (a0 : (List Int)) (a1 : (List Int)) (M : IM) (v0 v1 : Value) (c0 : Chunk) (h0 : OwnS (Kd.int .u8) M v0 a0 c0) (h1 : RS (Kd.int .i64) M v1 a1) (res : (List Int)) (h : f_wire_Row a0 a1 = some res) :
    Tri Tryz.prog 75 #[v0, v1] M [c0] (f_wire_Row_post a0 a1 v0 v1 res) := by
 unfold f_wire_Row at h
 refine Tri.enter (fn := Tryz.f75) Tryz.func75 rfl (Nat.le_of_ble_eq_true rfl) ?_
 intro F ρ hρ
 refine Sr ?_
 refine Pa (.slice none 0 0) rfl rfl ?_
 refine Ns ?_
 refine Pm v0 (hρ 0) rfl ?_
 refine Pm v1 (hρ 1) rfl ?_
 refine Pu (.int .i64 (a1.length : Int)) (PO.lenS Tryz.underlying65 rfl h1.len) rfl ?_
 obtain ⟨r21, hr22, h⟩ := bnd h
 refine WL.eff (EO.call1 co39 (f_wire_Int_ok a0 (a1.length : Int) _ _ _ h0 r21 hr22) (args2 rfl rfl)) rfl ?_
 rintro _ M23 _ hle24 ⟨_, ⟨vq25, cq25, rfl, rfl, hq25⟩, rfl⟩
 have h0 := h0.mono hle24
 have h1 := h1.mono hle24
 refine WL.a1 ?_
 refine Pa vq25 rfl rfl ?_
 refine Nt ?_
 obtain ⟨x26, hj27, h⟩ := bnd h
 refine WC.joinF (fun (x26 : (List Int)) ρ' M' H' => ∃ vx26 cx26, M23.le M' ∧ cx26 :: F = H' ∧ ρ' 0 = vx26 ∧ OwnS (Kd.int .u8) M' vx26 x26 cx26) x26 ?_ ?_
 have h327 := h
 have h := hj27
 refine Sr ?_
 refine Pm v1 (hρ 1) rfl ?_
 refine Pu (.int .i64 (a1.length : Int)) (PO.lenS Tryz.underlying65 rfl h1.len) rfl ?_
 refine Pm (.int .i64 0) rfl rfl ?_
 refine Nt ?_
 refine WC.block ?_
 obtain ⟨e28, he28, hK28⟩ := bnd h
 clear h
 refine WC.loop he28 (fun (p_ : ((List Int) × Int)) ρ' M' H' => match p_ with | (x29, x30) => ∃ vx29 cx29, M23.le M' ∧ cx29 :: F = H' ∧ ρ' 0 = vx29 ∧ ρ' 11 = v1 ∧ ρ' 12 = (.int .i64 (a1.length : Int)) ∧ ρ' 13 = (.int .i64 x30) ∧ OwnS (Kd.int .u8) M' vx29 x29 cx29) ?_ ?_
 exact ⟨vq25, cq25, (IM.le.refl _), rfl, rfl, rfl, rfl, rfl, hq25⟩
 rintro ⟨x29, x30⟩ o28 ρ28 M28 H28 h ⟨vx29, cx29, hle28, rfl, hs28_0, hs28_11, hs28_12, hs28_13, hx29⟩
 unfold f_wire_Row_l0 at h
 have h1 := h1.mono hle28
 refine Sr ?_
 refine Pu (.bool (decide (x30 < (a1.length : Int)))) (PO.lss hs28_13 hs28_12) rfl ?_
 refine Nt ?_
 refine WC.seq ?_
 refine WC.cond (b := decide (x30 < (a1.length : Int))) rfl (fun hb32 => ?_) (fun hb32 => ?_)
 have h := ite_t hb32 h
 refine WC.skip ?_
 refine WQ.thenC ?_
 refine WC.seq ?_
 refine WC.block ?_
 refine Sr ?_
 obtain ⟨hg33, h⟩ := grd_i h
 obtain ⟨p34, cs35, hat36, hrc37, hhas38⟩ := h1.at hg33.1 hg33.2 (by decide)
 obtain rfl := hrc37
 refine Pu (.pointer (some p34)) (PO.indexAddr (n := a1.length) Tryz.underlying65 sz3 hs28_11 hs28_13 hg33.1 hg33.2 hat36) rfl ?_
 refine Pu (.int .i64 (rd a1 x30)) (PO.loadM pl3 rfl (IM.has0 hhas38)) rfl ?_
 refine Pa (.int .i64 (rd a1 x30)) rfl rfl ?_
 refine Nt ?_
 refine WC.region ?_
 refine Pm vx29 hs28_0 rfl ?_
 refine Pm (.int .i64 (rd a1 x30)) rfl rfl ?_
 obtain ⟨r40, hr41, h⟩ := bnd h
 refine WL.eff (EO.call1 co39 (f_wire_Int_ok x29 (rd a1 x30) _ _ _ hx29 r40 hr41) (args2 rfl rfl)) rfl ?_
 rintro _ M42 _ hle43 ⟨_, ⟨vq44, cq44, rfl, rfl, hq44⟩, rfl⟩
 have hx29 := hx29.mono hle43
 have h1 := h1.mono hle43
 refine WL.a1 ?_
 refine Pa vq44 rfl rfl ?_
 refine WL.nil ?_
 refine WQ.blockN ?_
 refine WQ.thenC ?_
 refine WC.region ?_
 refine Pu (.int .i64 (IntKind.i64.wrap (x30 + 1))) (PO.add hs28_13 rfl) rfl ?_
 refine Pm (.int .i64 (IntKind.i64.wrap (x30 + 1))) rfl rfl ?_
 refine WL.nil ?_
 refine WQ.again (r40, IntKind.i64.wrap (x30 + 1)) (Option.some.inj h).symm ?_
 exact ⟨vq44, cq44, (hle28.trans hle43), rfl, rfl, hs28_11, hs28_12, rfl, hq44⟩
 have h := ite_f hb32 h
 refine WC.exit ?_
 refine WQ.thenE ?_
 refine WQ.leaveE x29 (Option.some.inj h).symm (fun heq28 => ?_)
 subst heq28
 have h := hK28
 refine WQ.blockH ?_
 obtain rfl := Option.some.inj h
 refine WQ.thenJ ?_
 exact ⟨vx29, cx29, hle28, rfl, hs28_0, hx29⟩
 rintro ρ27 M27 H27 ⟨vx26, cx26, hle27, rfl, hs27_0, hx26⟩
 refine Sr ?_
 refine Pm vx26 hs27_0 rfl ?_
 refine Pa vx26 rfl rfl ?_
 refine Nt ?_
 refine WC.ret ?_
 exact WQ.returnsF h [cx26] rfl (results1 rfl rfl) (hle24.trans hle27) ⟨vx26, cx26, rfl, rfl, hx26⟩

noncomputable def f_record_Put_3 (a0 : Int) (a1 : (List Int)) (a2 : Int) (a3 : (List Int)) : Option (List Int) :=
  (if (decide ((andI .i64 a2 a0) ≠ (0 : Int))) = true then ((f_wire_Row a3 a1).bind fun (r22 : (List Int)) => (some r22)) else (some a3))
def f_record_Put_3_post (a0 : Int) (a1 : (List Int)) (a2 : Int) (a3 : (List Int)) (v1 v3 : Value) (g2 g3 : Nat) : (List Int) → Value → IM → HL → Prop :=
  fun (r0 : (List Int)) (v : Value) (M' : IM) (H' : HL) => ∃ w0 d1, (.tuple #[]) = v ∧ H' = [[(g2, .cells #[(.int .i64 a2)] 3 (0, 0))], [(g3, .cells #[w0] 40 (0, 0))], d1] ∧ OwnS (Kd.int .u8) M' w0 r0 d1
theorem f_record_Put_3_ok (a0 : Int) (a1 : (List Int)) (a2 : Int) (a3 : (List Int)) (M : IM) (v1 v3 : Value) (g2 g3 : Nat) (c3 : Chunk) (h1 : RS (Kd.int .i64) M v1 a1) (h3 : OwnS (Kd.int .u8) M v3 a3 c3) (res : (List Int)) (h : f_record_Put_3 a0 a1 a2 a3 = some res) :
    Tri Tryz.prog 74 #[(.int .i64 a0), v1, (pt g2 0), (pt g3 0)] M [[(g2, .cells #[(.int .i64 a2)] 3 (0, 0))], [(g3, .cells #[v3] 40 (0, 0))], c3] (f_record_Put_3_post a0 a1 a2 a3 v1 v3 g2 g3 res) := by
 unfold f_record_Put_3 at h
 refine Tri.enter (fn := Tryz.f74) Tryz.func74 rfl (Nat.le_of_ble_eq_true rfl) ?_
 intro F ρ hρ
 refine Sr ?_
 refine Pu (.int .i64 a2) (PO.loadB 0 pl3 (hρ 2) rfl rfl) rfl ?_
 refine Pm (.int .i64 a0) (hρ 0) rfl ?_
 refine Pu (.int .i64 (andI .i64 a2 a0)) (PO.and rfl rfl) rfl ?_
 refine Pu (.bool (decide ((andI .i64 a2 a0) ≠ 0))) (PO.neq rfl rfl) rfl ?_
 refine Nt ?_
 refine WC.cond (b := decide ((andI .i64 a2 a0) ≠ 0)) rfl (fun hb21 => ?_) (fun hb21 => ?_)
 have h := ite_t hb21 h
 refine WC.region ?_
 refine Pu v3 (PO.loadB 1 pl40 (hρ 3) rfl rfl) rfl ?_
 refine Pm v1 (hρ 1) rfl ?_
 obtain ⟨r22, hr23, h⟩ := bnd h
 refine WL.f2 ?_
 refine WL.eff (EO.call1 co75 (f_wire_Row_ok a3 a1 _ _ _ _ h3 h1 r22 hr23) (args2 rfl rfl)) rfl ?_
 rintro _ M24 _ hle25 ⟨_, ⟨vq26, cq26, rfl, rfl, hq26⟩, rfl⟩
 have h1 := h1.mono hle25
 have h3 := h3.mono hle25
 refine WL.a1 ?_
 refine WL.f2 ?_
 refine WL.eff (EO.storeL (v := vq26) (vl := [vq26]) (arr' := [vq26]) hq26.cells sz40 (hρ 3) rfl (onesOf (Ones.cons (OwnS.one hq26) Ones.nil)) rfl rfl rfl) rfl ?_
 rintro _ _ _ - ⟨rfl, rfl⟩
 refine WL.nil ?_
 refine WQ.f1 ?_
 refine WQ.f1 ?_
 refine WQ.f2 ?_
 exact WQ.endsF h [[(g2, .cells #[(.int .i64 a2)] 3 (0, 0))], [(g3, .cells #[vq26] 40 (0, 0))], cq26] rfl (results0 rfl) hle25 ⟨vq26, cq26, rfl, rfl, hq26⟩
 have h := ite_f hb21 h
 refine WC.skip ?_
 exact WQ.endsF h [[(g2, .cells #[(.int .i64 a2)] 3 (0, 0))], [(g3, .cells #[v3] 40 (0, 0))], c3] rfl (results0 rfl) (IM.le.refl _) ⟨v3, c3, rfl, rfl, h3⟩

noncomputable def f_record_Put (a0 : (List Int)) (a1 : T_api_Record) : Option ((List Int) × GErr) :=
  ((f_record_Check a1).bind fun (r23 : GErr) => (if (!r23.isNil) = true then (some ([], r23)) else ((f_record_about a1.Kind).bind fun (r30 : Int) => (grd (a0.length + [IntKind.u8.wrap a1.Kind].length ≤ 274877906944) ((f_record_Put_1 (1 : Int) a1.Broker r30 (a0 ++ [IntKind.u8.wrap a1.Kind])).bind fun (r43 : (List Int)) => ((f_record_Put_1 (2 : Int) a1.Epoch r30 r43).bind fun (r50 : (List Int)) => ((f_record_Put_1 (4 : Int) a1.Topic r30 r50).bind fun (r57 : (List Int)) => ((f_record_Put_1 (8 : Int) a1.Part r30 r57).bind fun (r64 : (List Int)) => ((f_record_Put_1 (16 : Int) a1.Leader r30 r64).bind fun (r71 : (List Int)) => ((f_record_Put_1 (32 : Int) a1.Client r30 r71).bind fun (r78 : (List Int)) => ((f_record_Put_1 (32 : Int) a1.Serial r30 r78).bind fun (r85 : (List Int)) => ((f_record_Put_1 (32 : Int) a1.Code r30 r85).bind fun (r92 : (List Int)) => (((if (decide ((andI .i64 r30 (64 : Int)) ≠ (0 : Int))) = true then ((f_wire_Flag r92 a1.Flag).bind fun (r102 : (List Int)) => (some r102)) else (some r92)) : Option (List Int)).bind fun (x99 : (List Int)) => ((f_record_Put_2 (128 : Int) a1.Name r30 x99).bind fun (r107 : (List Int)) => ((f_record_Put_2 (256 : Int) a1.Key r30 r107).bind fun (r114 : (List Int)) => ((f_record_Put_2 (512 : Int) a1.Value r30 r114).bind fun (r121 : (List Int)) => ((f_record_Put_2 (1024 : Int) a1.Rack r30 r121).bind fun (r128 : (List Int)) => ((f_record_Put_3 (2048 : Int) a1.Ids r30 r128).bind fun (r135 : (List Int)) => ((f_record_Put_3 (4096 : Int) a1.Isr r30 r135).bind fun (r142 : (List Int)) => ((f_record_Put_3 (8192 : Int) a1.Add r30 r142).bind fun (r149 : (List Int)) => ((f_record_Put_3 (8192 : Int) a1.Drop r30 r149).bind fun (r156 : (List Int)) => (some (r156, GErr.nil)))))))))))))))))))))))
def f_record_Put_post (a0 : (List Int)) (a1 : T_api_Record) (v0 v1_14 v1_15 v1_16 v1_17 : Value) : ((List Int) × GErr) → Value → IM → HL → Prop :=
  fun (p_ : ((List Int) × GErr)) (v : Value) (M' : IM) (H' : HL) => match p_ with | (r0, r1) => ∃ vz0 cz0, (.tuple #[vz0, (GV r1)]) = v ∧ H' = [cz0] ∧ OwnS (Kd.int .u8) M' vz0 r0 cz0
theorem f_record_Put_ok (a0 : (List Int)) (a1 : T_api_Record) (M : IM) (v0 v1_14 v1_15 v1_16 v1_17 : Value) (c0 : Chunk) (h0 : OwnS (Kd.int .u8) M v0 a0 c0) (h1_14 : RS (Kd.int .i64) M v1_14 a1.Ids) (h1_15 : RS (Kd.int .i64) M v1_15 a1.Isr) (h1_16 : RS (Kd.int .i64) M v1_16 a1.Add) (h1_17 : RS (Kd.int .i64) M v1_17 a1.Drop) (res : ((List Int) × GErr)) (h : f_record_Put a0 a1 = some res) :
    Tri Tryz.prog 40 #[v0, (a67_ a1 v1_14 v1_15 v1_16 v1_17)] M [c0] (f_record_Put_post a0 a1 v0 v1_14 v1_15 v1_16 v1_17 res) := by
 unfold f_record_Put at h
 refine Tri.enter (fn := Tryz.f40) Tryz.func40 rfl (Nat.le_of_ble_eq_true rfl) ?_
 intro F ρ hρ
 refine Sr ?_
 refine WL.eff (EO.box (cs := #[v0]) ((congrArg Value.cells (asE v0 (hρ 0))).trans h0.cells)) rfl ?_
 rintro _ _ _ - ⟨rfl, g21, rfl, rfl⟩
 refine WL.eff (EO.box (cs := (l67 a1 v1_14 v1_15 v1_16 v1_17).toArray) (congrArg Value.cells (asE (a67_ a1 v1_14 v1_15 v1_16 v1_17) (hρ 1)))) rfl ?_
 rintro _ _ _ - ⟨rfl, g22, rfl, rfl⟩
 refine Pa (.slice none 0 0) rfl rfl ?_
 refine Pa (GV GErr.nil) rfl rfl ?_
 refine Nt ?_
 refine WC.seq ?_
 refine Sr ?_
 refine Pu (a67_ a1 v1_14 v1_15 v1_16 v1_17) (PO.loadBA (cs := (l67 a1 v1_14 v1_15 v1_16 v1_17)) 0 ag67 sz67 rfl rfl rfl) rfl ?_
 obtain ⟨r23, hr24, h⟩ := bnd h
 refine WL.eff (EO.call0 co32 (f_record_Check_ok a1 _ _ _ _ _ h1_14 h1_15 h1_16 h1_17 r23 hr24) (args1 rfl)) rfl ?_
 rintro _ M25 _ hle26 ⟨_, ⟨rfl, rfl⟩, rfl⟩
 have h1_14 := h1_14.mono hle26
 have h1_15 := h1_15.mono hle26
 have h1_16 := h1_16.mono hle26
 have h1_17 := h1_17.mono hle26
 have h0 := h0.mono hle26
 refine WL.a0 ?_
 refine Pa (GV r23) rfl rfl ?_
 refine Ns ?_
 refine Pm (GV r23) rfl rfl ?_
 refine Pu (.bool (!r23.isNil)) (PO.errNotNil Tryz.underlying29 rfl) rfl ?_
 refine Nt ?_
 refine WC.cond (b := !r23.isNil) rfl (fun hb28 => ?_) (fun hb28 => ?_)
 have h := ite_t hb28 h
 refine Sr ?_
 refine Pm (GV r23) rfl rfl ?_
 refine Pa (.slice none 0 0) rfl rfl ?_
 refine Pa (GV r23) rfl rfl ?_
 refine Nt ?_
 refine WC.ret ?_
 refine WQ.thenR ?_
 refine WQ.e0 ?_
 refine WQ.f1 ?_
 refine WQ.drop ?_
 refine WQ.f1 ?_
 refine WQ.drop ?_
 refine WQ.f1 ?_
 refine WQ.drop ?_
 exact WQ.returnsF h [[]] rfl (results2 rfl rfl rfl) hle26 ⟨(.slice none 0 0), [], rfl, rfl, (OwnS.nil _ _)⟩
 have h := ite_f hb28 h
 refine WC.skip ?_
 refine WQ.thenC ?_
 refine Sr ?_
 refine Pu (pt g22 0) (PO.fieldAddr fo67_0 rfl rfl) rfl ?_
 refine Pu (.int .i64 a1.Kind) (PO.loadB 0 pl3 rfl rfl rfl) rfl ?_
 obtain ⟨r30, hr31, h⟩ := bnd h
 refine WL.eff (EO.call0 co54 (f_record_about_ok a1.Kind _ r30 hr31) (args1 rfl)) rfl ?_
 rintro _ M32 _ hle33 ⟨_, ⟨rfl, rfl⟩, rfl⟩
 have h0 := h0.mono hle33
 have h1_14 := h1_14.mono hle33
 have h1_15 := h1_15.mono hle33
 have h1_16 := h1_16.mono hle33
 have h1_17 := h1_17.mono hle33
 refine WL.a0 ?_
 refine WL.eff (EO.alloc ze3 rfl) rfl ?_
 rintro _ _ _ - ⟨rfl, g35, rfl, rfl⟩
 refine WL.eff (EO.storeL (v := (.int .i64 r30)) (vl := [(.int .i64 r30)]) (arr' := [(.int .i64 r30)]) rfl sz3 rfl rfl (onesOf (Ones.cons rfl Ones.nil)) rfl rfl rfl) rfl ?_
 rintro _ _ _ - ⟨rfl, rfl⟩
 refine Ns ?_
 refine Pu v0 (PO.loadB 2 pl40 rfl rfl rfl) rfl ?_
 refine Pu (pt g22 0) (PO.fieldAddr fo67_0 rfl rfl) rfl ?_
 refine Pu (.int .i64 a1.Kind) (PO.loadB 1 pl3 rfl rfl rfl) rfl ?_
 refine Pu (.int .u8 (IntKind.u8.wrap a1.Kind)) (PO.conv us3 Tryz.underlying5 rfl) rfl ?_
 refine WL.eff (EO.buildSliceL (cl := [(.int .u8 (IntKind.u8.wrap a1.Kind))]) Tryz.underlying40 iz5 rfl (Parts.cons (congrArg Value.cells (show ev _ _ = (.int .u8 (IntKind.u8.wrap a1.Kind)) from rfl)) Parts.nil) rfl) rfl ?_
 rintro _ _ _ - ⟨rfl, g36, rfl, rfl⟩
 have h38 : OwnS (Kd.int .u8) M32 (.slice (some ⟨g36, 0, none⟩) 1 1) [IntKind.u8.wrap a1.Kind] [(g36, .cells #[(.int .u8 (IntKind.u8.wrap a1.Kind))] 5 (0, 0))] := OwnS.rows (css := [[(.int .u8 (IntKind.u8.wrap a1.Kind))]]) (Rows.cons rfl Rows.nil) rfl rfl
 obtain ⟨hg42, h⟩ := grd_i h
 refine WL.f4 ?_
 refine WL.eff (EO.append (dd := (Kd.int .u8)) (xs := a0) (ys := [IntKind.u8.wrap a1.Kind]) Tryz.underlying40 Tryz.underlying40 in5 rfl (appB (by decide) hg42) (by decide) rfl rfl h0 (h38.src 1 rfl)) rfl ?_
 rintro v41 _ _ - ⟨rfl, c39, rfl, h40⟩
 refine WL.f4 ?_
 refine WL.eff (EO.storeL (v := v41) (vl := [v41]) (arr' := [v41]) h40.cells sz40 rfl rfl (onesOf (Ones.cons (OwnS.one h40) Ones.nil)) rfl rfl rfl) rfl ?_
 rintro _ _ _ - ⟨rfl, rfl⟩
 refine Ns ?_
 refine Pu (.func (.func 70) #[] #[(pt g35 0), (pt g21 0)]) (PO.makeFunc2 (args0) (args2 (show ev _ _ = (pt g35 0) from rfl) (show ev _ _ = (pt g21 0) from rfl))) rfl ?_
 refine Pa (.func (.func 70) #[] #[(pt g35 0), (pt g21 0)]) rfl rfl ?_
 refine Ns ?_
 refine Pm (.func (.func 70) #[] #[(pt g35 0), (pt g21 0)]) rfl rfl ?_
 refine Pu (pt g22 1) (PO.fieldAddr fo67_1 rfl rfl) rfl ?_
 refine Pu (.int .i64 a1.Broker) (PO.loadB 4 pl3 rfl rfl rfl) rfl ?_
 obtain ⟨r43, hr44, h⟩ := bnd h
 refine WL.f1 ?_
 refine WL.f1 ?_
 refine WL.f3 ?_
 refine WL.eff (EO.callV3 (first := #[]) (cap := #[(pt g35 0), (pt g21 0)]) co70 rfl (f_record_Put_1_ok (1 : Int) a1.Broker r30 (a0 ++ [IntKind.u8.wrap a1.Kind]) _ _ _ _ _ h40 r43 hr44) (argsV2 rfl rfl rfl)) rfl ?_
 rintro _ M45 _ hle46 ⟨_, ⟨v47, c49, rfl, rfl, h48⟩, rfl⟩
 have h40 := h40.mono hle46
 have h1_14 := h1_14.mono hle46
 have h1_15 := h1_15.mono hle46
 have h1_16 := h1_16.mono hle46
 have h1_17 := h1_17.mono hle46
 refine WL.a3 ?_
 refine Ns ?_
 refine Pm (.func (.func 70) #[] #[(pt g35 0), (pt g21 0)]) rfl rfl ?_
 refine Pu (pt g22 2) (PO.fieldAddr fo67_2 rfl rfl) rfl ?_
 refine Pu (.int .i64 a1.Epoch) (PO.loadB 4 pl3 rfl rfl rfl) rfl ?_
 obtain ⟨r50, hr51, h⟩ := bnd h
 refine WL.f2 ?_
 refine WL.f2 ?_
 refine WL.f2 ?_
 refine WL.eff (EO.callV3 (first := #[]) (cap := #[(pt g35 0), (pt g21 0)]) co70 rfl (f_record_Put_1_ok (2 : Int) a1.Epoch r30 r43 _ _ _ _ _ h48 r50 hr51) (argsV2 rfl rfl rfl)) rfl ?_
 rintro _ M52 _ hle53 ⟨_, ⟨v54, c56, rfl, rfl, h55⟩, rfl⟩
 have h48 := h48.mono hle53
 have h1_14 := h1_14.mono hle53
 have h1_15 := h1_15.mono hle53
 have h1_16 := h1_16.mono hle53
 have h1_17 := h1_17.mono hle53
 refine WL.a3 ?_
 refine Ns ?_
 refine Pm (.func (.func 70) #[] #[(pt g35 0), (pt g21 0)]) rfl rfl ?_
 refine Pu (pt g22 3) (PO.fieldAddr fo67_3 rfl rfl) rfl ?_
 refine Pu (.int .i64 a1.Topic) (PO.loadB 4 pl3 rfl rfl rfl) rfl ?_
 obtain ⟨r57, hr58, h⟩ := bnd h
 refine WL.f2 ?_
 refine WL.f2 ?_
 refine WL.f2 ?_
 refine WL.eff (EO.callV3 (first := #[]) (cap := #[(pt g35 0), (pt g21 0)]) co70 rfl (f_record_Put_1_ok (4 : Int) a1.Topic r30 r50 _ _ _ _ _ h55 r57 hr58) (argsV2 rfl rfl rfl)) rfl ?_
 rintro _ M59 _ hle60 ⟨_, ⟨v61, c63, rfl, rfl, h62⟩, rfl⟩
 have h55 := h55.mono hle60
 have h1_14 := h1_14.mono hle60
 have h1_15 := h1_15.mono hle60
 have h1_16 := h1_16.mono hle60
 have h1_17 := h1_17.mono hle60
 refine WL.a3 ?_
 refine Ns ?_
 refine Pm (.func (.func 70) #[] #[(pt g35 0), (pt g21 0)]) rfl rfl ?_
 refine Pu (pt g22 4) (PO.fieldAddr fo67_4 rfl rfl) rfl ?_
 refine Pu (.int .i64 a1.Part) (PO.loadB 4 pl3 rfl rfl rfl) rfl ?_
 obtain ⟨r64, hr65, h⟩ := bnd h
 refine WL.f2 ?_
 refine WL.f2 ?_
 refine WL.f2 ?_
 refine WL.eff (EO.callV3 (first := #[]) (cap := #[(pt g35 0), (pt g21 0)]) co70 rfl (f_record_Put_1_ok (8 : Int) a1.Part r30 r57 _ _ _ _ _ h62 r64 hr65) (argsV2 rfl rfl rfl)) rfl ?_
 rintro _ M66 _ hle67 ⟨_, ⟨v68, c70, rfl, rfl, h69⟩, rfl⟩
 have h62 := h62.mono hle67
 have h1_14 := h1_14.mono hle67
 have h1_15 := h1_15.mono hle67
 have h1_16 := h1_16.mono hle67
 have h1_17 := h1_17.mono hle67
 refine WL.a3 ?_
 refine Ns ?_
 refine Pm (.func (.func 70) #[] #[(pt g35 0), (pt g21 0)]) rfl rfl ?_
 refine Pu (pt g22 5) (PO.fieldAddr fo67_5 rfl rfl) rfl ?_
 refine Pu (.int .i64 a1.Leader) (PO.loadB 4 pl3 rfl rfl rfl) rfl ?_
 obtain ⟨r71, hr72, h⟩ := bnd h
 refine WL.f2 ?_
 refine WL.f2 ?_
 refine WL.f2 ?_
 refine WL.eff (EO.callV3 (first := #[]) (cap := #[(pt g35 0), (pt g21 0)]) co70 rfl (f_record_Put_1_ok (16 : Int) a1.Leader r30 r64 _ _ _ _ _ h69 r71 hr72) (argsV2 rfl rfl rfl)) rfl ?_
 rintro _ M73 _ hle74 ⟨_, ⟨v75, c77, rfl, rfl, h76⟩, rfl⟩
 have h69 := h69.mono hle74
 have h1_14 := h1_14.mono hle74
 have h1_15 := h1_15.mono hle74
 have h1_16 := h1_16.mono hle74
 have h1_17 := h1_17.mono hle74
 refine WL.a3 ?_
 refine Ns ?_
 refine Pm (.func (.func 70) #[] #[(pt g35 0), (pt g21 0)]) rfl rfl ?_
 refine Pu (pt g22 6) (PO.fieldAddr fo67_6 rfl rfl) rfl ?_
 refine Pu (.int .i64 a1.Client) (PO.loadB 4 pl3 rfl rfl rfl) rfl ?_
 obtain ⟨r78, hr79, h⟩ := bnd h
 refine WL.f2 ?_
 refine WL.f2 ?_
 refine WL.f2 ?_
 refine WL.eff (EO.callV3 (first := #[]) (cap := #[(pt g35 0), (pt g21 0)]) co70 rfl (f_record_Put_1_ok (32 : Int) a1.Client r30 r71 _ _ _ _ _ h76 r78 hr79) (argsV2 rfl rfl rfl)) rfl ?_
 rintro _ M80 _ hle81 ⟨_, ⟨v82, c84, rfl, rfl, h83⟩, rfl⟩
 have h76 := h76.mono hle81
 have h1_14 := h1_14.mono hle81
 have h1_15 := h1_15.mono hle81
 have h1_16 := h1_16.mono hle81
 have h1_17 := h1_17.mono hle81
 refine WL.a3 ?_
 refine Ns ?_
 refine Pm (.func (.func 70) #[] #[(pt g35 0), (pt g21 0)]) rfl rfl ?_
 refine Pu (pt g22 7) (PO.fieldAddr fo67_7 rfl rfl) rfl ?_
 refine Pu (.int .i64 a1.Serial) (PO.loadB 4 pl3 rfl rfl rfl) rfl ?_
 obtain ⟨r85, hr86, h⟩ := bnd h
 refine WL.f2 ?_
 refine WL.f2 ?_
 refine WL.f2 ?_
 refine WL.eff (EO.callV3 (first := #[]) (cap := #[(pt g35 0), (pt g21 0)]) co70 rfl (f_record_Put_1_ok (32 : Int) a1.Serial r30 r78 _ _ _ _ _ h83 r85 hr86) (argsV2 rfl rfl rfl)) rfl ?_
 rintro _ M87 _ hle88 ⟨_, ⟨v89, c91, rfl, rfl, h90⟩, rfl⟩
 have h83 := h83.mono hle88
 have h1_14 := h1_14.mono hle88
 have h1_15 := h1_15.mono hle88
 have h1_16 := h1_16.mono hle88
 have h1_17 := h1_17.mono hle88
 refine WL.a3 ?_
 refine Ns ?_
 refine Pm (.func (.func 70) #[] #[(pt g35 0), (pt g21 0)]) rfl rfl ?_
 refine Pu (pt g22 8) (PO.fieldAddr fo67_8 rfl rfl) rfl ?_
 refine Pu (.int .i64 a1.Code) (PO.loadB 4 pl3 rfl rfl rfl) rfl ?_
 obtain ⟨r92, hr93, h⟩ := bnd h
 refine WL.f2 ?_
 refine WL.f2 ?_
 refine WL.f2 ?_
 refine WL.eff (EO.callV3 (first := #[]) (cap := #[(pt g35 0), (pt g21 0)]) co70 rfl (f_record_Put_1_ok (32 : Int) a1.Code r30 r85 _ _ _ _ _ h90 r92 hr93) (argsV2 rfl rfl rfl)) rfl ?_
 rintro _ M94 _ hle95 ⟨_, ⟨v96, c98, rfl, rfl, h97⟩, rfl⟩
 have h90 := h90.mono hle95
 have h1_14 := h1_14.mono hle95
 have h1_15 := h1_15.mono hle95
 have h1_16 := h1_16.mono hle95
 have h1_17 := h1_17.mono hle95
 refine WL.a3 ?_
 refine Nt ?_
 obtain ⟨x99, hj100, h⟩ := bnd h
 refine WC.joinF (fun (x99 : (List Int)) ρ' M' H' => ∃ vx99 cx99, M94.le M' ∧ [(g35, .cells #[(.int .i64 r30)] 3 (0, 0))] :: [(g21, .cells #[vx99] 40 (0, 0))] :: [(g22, .cells (l67 a1 v1_14 v1_15 v1_16 v1_17).toArray 67 (0, 0))] :: cx99 :: F = H' ∧ ρ' 2 = (pt g21 0) ∧ ρ' 3 = (pt g22 0) ∧ ρ' 7 = (pt g35 0) ∧ OwnS (Kd.int .u8) M' vx99 x99 cx99) x99 ?_ ?_
 have h3100 := h
 have h := hj100
 refine Sr ?_
 refine Pu (.int .i64 r30) (PO.loadB 0 pl3 rfl rfl rfl) rfl ?_
 refine Pu (.int .i64 (andI .i64 r30 (64 : Int))) (PO.and rfl rfl) rfl ?_
 refine Pu (.bool (decide ((andI .i64 r30 (64 : Int)) ≠ 0))) (PO.neq rfl rfl) rfl ?_
 refine Nt ?_
 refine WC.cond (b := decide ((andI .i64 r30 (64 : Int)) ≠ 0)) rfl (fun hb101 => ?_) (fun hb101 => ?_)
 have h := ite_t hb101 h
 refine WC.region ?_
 refine Pu v96 (PO.loadB 1 pl40 rfl rfl rfl) rfl ?_
 refine Pu (pt g22 9) (PO.fieldAddr fo67_9 rfl rfl) rfl ?_
 refine Pu (.bool a1.Flag) (PO.loadB 4 pl4 rfl rfl rfl) rfl ?_
 obtain ⟨r102, hr103, h⟩ := bnd h
 refine WL.f2 ?_
 refine WL.eff (EO.call1 co71 (f_wire_Flag_ok r92 a1.Flag _ _ _ h97 r102 hr103) (args2 rfl rfl)) rfl ?_
 rintro _ M104 _ hle105 ⟨_, ⟨vq106, cq106, rfl, rfl, hq106⟩, rfl⟩
 have h97 := h97.mono hle105
 have h1_14 := h1_14.mono hle105
 have h1_15 := h1_15.mono hle105
 have h1_16 := h1_16.mono hle105
 have h1_17 := h1_17.mono hle105
 refine WL.a1 ?_
 refine WL.f2 ?_
 refine WL.eff (EO.storeL (v := vq106) (vl := [vq106]) (arr' := [vq106]) hq106.cells sz40 rfl rfl (onesOf (Ones.cons (OwnS.one hq106) Ones.nil)) rfl rfl rfl) rfl ?_
 rintro _ _ _ - ⟨rfl, rfl⟩
 refine WL.nil ?_
 refine WQ.f3 ?_
 refine WQ.drop ?_
 refine WQ.f1 ?_
 refine WQ.f3 ?_
 refine WQ.f2 ?_
 refine WQ.f3 ?_
 obtain rfl := Option.some.inj h
 refine WQ.thenJ ?_
 exact ⟨vq106, cq106, hle105, rfl, rfl, rfl, rfl, hq106⟩
 have h := ite_f hb101 h
 refine WC.skip ?_
 refine WQ.f3 ?_
 refine WQ.drop ?_
 refine WQ.f2 ?_
 refine WQ.f3 ?_
 refine WQ.f3 ?_
 refine WQ.f3 ?_
 obtain rfl := Option.some.inj h
 refine WQ.thenJ ?_
 exact ⟨v96, c98, (IM.le.refl _), rfl, rfl, rfl, rfl, h97⟩
 rintro ρ100 M100 H100 ⟨vx99, cx99, hle100, rfl, hs100_2, hs100_3, hs100_7, hx99⟩
 have h1_14 := h1_14.mono hle100
 have h1_15 := h1_15.mono hle100
 have h1_16 := h1_16.mono hle100
 have h1_17 := h1_17.mono hle100
 refine Sr ?_
 refine Pu (.func (.func 72) #[] #[(pt g35 0), (pt g21 0)]) (PO.makeFunc2 (args0) (args2 (asE (Value.pointer (some ⟨g35, 0, none⟩)) hs100_7) (asE (Value.pointer (some ⟨g21, 0, none⟩)) hs100_2))) rfl ?_
 refine Pa (.func (.func 72) #[] #[(pt g35 0), (pt g21 0)]) rfl rfl ?_
 refine Ns ?_
 refine Pm (.func (.func 72) #[] #[(pt g35 0), (pt g21 0)]) rfl rfl ?_
 refine Pu (pt g22 10) (PO.fieldAddr fo67_10 hs100_3 rfl) rfl ?_
 refine Pu (.string a1.Name) (PO.loadB 2 pl9 rfl rfl rfl) rfl ?_
 obtain ⟨r107, hr108, h⟩ := bnd h
 refine WL.f3 ?_
 refine WL.f2 ?_
 refine WL.f2 ?_
 refine WL.eff (EO.callV3 (first := #[]) (cap := #[(pt g35 0), (pt g21 0)]) co72 rfl (f_record_Put_2_ok (128 : Int) a1.Name r30 x99 _ _ _ _ _ hx99 r107 hr108) (argsV2 rfl rfl rfl)) rfl ?_
 rintro _ M109 _ hle110 ⟨_, ⟨v111, c113, rfl, rfl, h112⟩, rfl⟩
 have hx99 := hx99.mono hle110
 have h1_14 := h1_14.mono hle110
 have h1_15 := h1_15.mono hle110
 have h1_16 := h1_16.mono hle110
 have h1_17 := h1_17.mono hle110
 refine WL.a3 ?_
 refine Ns ?_
 refine Pm (.func (.func 72) #[] #[(pt g35 0), (pt g21 0)]) rfl rfl ?_
 refine Pu (pt g22 11) (PO.fieldAddr fo67_11 hs100_3 rfl) rfl ?_
 refine Pu (.string a1.Key) (PO.loadB 3 pl9 rfl rfl rfl) rfl ?_
 obtain ⟨r114, hr115, h⟩ := bnd h
 refine WL.f2 ?_
 refine WL.f2 ?_
 refine WL.f2 ?_
 refine WL.eff (EO.callV3 (first := #[]) (cap := #[(pt g35 0), (pt g21 0)]) co72 rfl (f_record_Put_2_ok (256 : Int) a1.Key r30 r107 _ _ _ _ _ h112 r114 hr115) (argsV2 rfl rfl rfl)) rfl ?_
 rintro _ M116 _ hle117 ⟨_, ⟨v118, c120, rfl, rfl, h119⟩, rfl⟩
 have h112 := h112.mono hle117
 have h1_14 := h1_14.mono hle117
 have h1_15 := h1_15.mono hle117
 have h1_16 := h1_16.mono hle117
 have h1_17 := h1_17.mono hle117
 refine WL.a3 ?_
 refine Ns ?_
 refine Pm (.func (.func 72) #[] #[(pt g35 0), (pt g21 0)]) rfl rfl ?_
 refine Pu (pt g22 12) (PO.fieldAddr fo67_12 hs100_3 rfl) rfl ?_
 refine Pu (.string a1.Value) (PO.loadB 3 pl9 rfl rfl rfl) rfl ?_
 obtain ⟨r121, hr122, h⟩ := bnd h
 refine WL.f2 ?_
 refine WL.f2 ?_
 refine WL.f2 ?_
 refine WL.eff (EO.callV3 (first := #[]) (cap := #[(pt g35 0), (pt g21 0)]) co72 rfl (f_record_Put_2_ok (512 : Int) a1.Value r30 r114 _ _ _ _ _ h119 r121 hr122) (argsV2 rfl rfl rfl)) rfl ?_
 rintro _ M123 _ hle124 ⟨_, ⟨v125, c127, rfl, rfl, h126⟩, rfl⟩
 have h119 := h119.mono hle124
 have h1_14 := h1_14.mono hle124
 have h1_15 := h1_15.mono hle124
 have h1_16 := h1_16.mono hle124
 have h1_17 := h1_17.mono hle124
 refine WL.a3 ?_
 refine Ns ?_
 refine Pm (.func (.func 72) #[] #[(pt g35 0), (pt g21 0)]) rfl rfl ?_
 refine Pu (pt g22 13) (PO.fieldAddr fo67_13 hs100_3 rfl) rfl ?_
 refine Pu (.string a1.Rack) (PO.loadB 3 pl9 rfl rfl rfl) rfl ?_
 obtain ⟨r128, hr129, h⟩ := bnd h
 refine WL.f2 ?_
 refine WL.f2 ?_
 refine WL.f2 ?_
 refine WL.eff (EO.callV3 (first := #[]) (cap := #[(pt g35 0), (pt g21 0)]) co72 rfl (f_record_Put_2_ok (1024 : Int) a1.Rack r30 r121 _ _ _ _ _ h126 r128 hr129) (argsV2 rfl rfl rfl)) rfl ?_
 rintro _ M130 _ hle131 ⟨_, ⟨v132, c134, rfl, rfl, h133⟩, rfl⟩
 have h126 := h126.mono hle131
 have h1_14 := h1_14.mono hle131
 have h1_15 := h1_15.mono hle131
 have h1_16 := h1_16.mono hle131
 have h1_17 := h1_17.mono hle131
 refine WL.a3 ?_
 refine Ns ?_
 refine Pu (.func (.func 74) #[] #[(pt g35 0), (pt g21 0)]) (PO.makeFunc2 (args0) (args2 (asE (Value.pointer (some ⟨g35, 0, none⟩)) hs100_7) (asE (Value.pointer (some ⟨g21, 0, none⟩)) hs100_2))) rfl ?_
 refine Pa (.func (.func 74) #[] #[(pt g35 0), (pt g21 0)]) rfl rfl ?_
 refine Ns ?_
 refine Pm (.func (.func 74) #[] #[(pt g35 0), (pt g21 0)]) rfl rfl ?_
 refine Pu (pt g22 14) (PO.fieldAddr fo67_14 hs100_3 rfl) rfl ?_
 refine Pu v1_14 (PO.loadB 3 pl65 rfl rfl rfl) rfl ?_
 obtain ⟨r135, hr136, h⟩ := bnd h
 refine WL.f2 ?_
 refine WL.f2 ?_
 refine WL.f2 ?_
 refine WL.eff (EO.callV3 (first := #[]) (cap := #[(pt g35 0), (pt g21 0)]) co74 rfl (f_record_Put_3_ok (2048 : Int) a1.Ids r30 r128 _ _ _ _ _ _ h1_14 h133 r135 hr136) (argsV2 rfl rfl rfl)) rfl ?_
 rintro _ M137 _ hle138 ⟨_, ⟨v139, c141, rfl, rfl, h140⟩, rfl⟩
 have h1_14 := h1_14.mono hle138
 have h133 := h133.mono hle138
 have h1_15 := h1_15.mono hle138
 have h1_16 := h1_16.mono hle138
 have h1_17 := h1_17.mono hle138
 refine WL.a3 ?_
 refine Ns ?_
 refine Pm (.func (.func 74) #[] #[(pt g35 0), (pt g21 0)]) rfl rfl ?_
 refine Pu (pt g22 15) (PO.fieldAddr fo67_15 hs100_3 rfl) rfl ?_
 refine Pu v1_15 (PO.loadB 3 pl65 rfl rfl rfl) rfl ?_
 obtain ⟨r142, hr143, h⟩ := bnd h
 refine WL.f2 ?_
 refine WL.f2 ?_
 refine WL.f2 ?_
 refine WL.eff (EO.callV3 (first := #[]) (cap := #[(pt g35 0), (pt g21 0)]) co74 rfl (f_record_Put_3_ok (4096 : Int) a1.Isr r30 r135 _ _ _ _ _ _ h1_15 h140 r142 hr143) (argsV2 rfl rfl rfl)) rfl ?_
 rintro _ M144 _ hle145 ⟨_, ⟨v146, c148, rfl, rfl, h147⟩, rfl⟩
 have h1_15 := h1_15.mono hle145
 have h140 := h140.mono hle145
 have h1_14 := h1_14.mono hle145
 have h1_16 := h1_16.mono hle145
 have h1_17 := h1_17.mono hle145
 refine WL.a3 ?_
 refine Ns ?_
 refine Pm (.func (.func 74) #[] #[(pt g35 0), (pt g21 0)]) rfl rfl ?_
 refine Pu (pt g22 16) (PO.fieldAddr fo67_16 hs100_3 rfl) rfl ?_
 refine Pu v1_16 (PO.loadB 3 pl65 rfl rfl rfl) rfl ?_
 obtain ⟨r149, hr150, h⟩ := bnd h
 refine WL.f2 ?_
 refine WL.f2 ?_
 refine WL.f2 ?_
 refine WL.eff (EO.callV3 (first := #[]) (cap := #[(pt g35 0), (pt g21 0)]) co74 rfl (f_record_Put_3_ok (8192 : Int) a1.Add r30 r142 _ _ _ _ _ _ h1_16 h147 r149 hr150) (argsV2 rfl rfl rfl)) rfl ?_
 rintro _ M151 _ hle152 ⟨_, ⟨v153, c155, rfl, rfl, h154⟩, rfl⟩
 have h1_16 := h1_16.mono hle152
 have h147 := h147.mono hle152
 have h1_14 := h1_14.mono hle152
 have h1_15 := h1_15.mono hle152
 have h1_17 := h1_17.mono hle152
 refine WL.a3 ?_
 refine Ns ?_
 refine Pm (.func (.func 74) #[] #[(pt g35 0), (pt g21 0)]) rfl rfl ?_
 refine Pu (pt g22 17) (PO.fieldAddr fo67_17 hs100_3 rfl) rfl ?_
 refine Pu v1_17 (PO.loadB 3 pl65 rfl rfl rfl) rfl ?_
 obtain ⟨r156, hr157, h⟩ := bnd h
 refine WL.f2 ?_
 refine WL.f2 ?_
 refine WL.f2 ?_
 refine WL.eff (EO.callV3 (first := #[]) (cap := #[(pt g35 0), (pt g21 0)]) co74 rfl (f_record_Put_3_ok (8192 : Int) a1.Drop r30 r149 _ _ _ _ _ _ h1_17 h154 r156 hr157) (argsV2 rfl rfl rfl)) rfl ?_
 rintro _ M158 _ hle159 ⟨_, ⟨v160, c162, rfl, rfl, h161⟩, rfl⟩
 have h1_17 := h1_17.mono hle159
 have h154 := h154.mono hle159
 have h1_14 := h1_14.mono hle159
 have h1_15 := h1_15.mono hle159
 have h1_16 := h1_16.mono hle159
 refine WL.a3 ?_
 refine Ns ?_
 refine Pu v160 (PO.loadB 1 pl40 hs100_2 rfl rfl) rfl ?_
 refine Pa v160 rfl rfl ?_
 refine Pa (GV GErr.nil) rfl rfl ?_
 refine Nt ?_
 refine WC.ret ?_
 refine WQ.drop ?_
 refine WQ.drop ?_
 refine WQ.f1 ?_
 refine WQ.drop ?_
 exact WQ.returnsF h [c162] rfl (results2 rfl rfl rfl) ((((((((((((((((((hle26.trans hle33).trans hle46).trans hle53).trans hle60).trans hle67).trans hle74).trans hle81).trans hle88).trans hle95).trans hle100).trans hle110).trans hle117).trans hle124).trans hle131).trans hle138).trans hle145).trans hle152).trans hle159) ⟨v160, c162, rfl, rfl, h161⟩

noncomputable def f_batch_Put_l0 (a0 : T_api_Batch) (s_ : ((List Int) × Int)) : Option (((List Int) × Int) ⊕ ((List Int) ⊕ ((List Int) × GErr))) :=
  match s_ with
  | (x48, x49) =>
    (if (decide (x49 < (a0.Records.length : Int))) = true then (grd (0 ≤ x49 ∧ x49 < a0.Records.length) ((f_record_Put x48 (rd a0.Records x49)).bind fun (r62, r63) => (if (!r63.isNil) = true then ((f_fault_Wrap (⟨#[114, 101, 99, 111, 114, 100]⟩ : ByteArray) x49 r63).bind fun (r70 : GErr) => (some (Sum.inr (Sum.inr ([], r70))))) else (some (Sum.inl (r62, IntKind.i64.wrap (x49 + (1 : Int)))))))) else (some (Sum.inr (Sum.inl x48))))
noncomputable def f_batch_Put (a0 : T_api_Batch) : Option ((List Int) × GErr) :=
  ((f_batch_Check a0).bind fun (r22 : GErr) => (if (!r22.isNil) = true then (some ([], r22)) else ((f_wire_Int [] a0.Term).bind fun (r30 : (List Int)) => ((f_wire_Int r30 a0.Base).bind fun (r35 : (List Int)) => ((f_wire_Int r35 (a0.Records.length : Int)).bind fun (r40 : (List Int)) => ((((iter (f_batch_Put_l0 a0) (r40, (0 : Int))).bind (Sum.elim (fun (x50 : (List Int)) => (some (Sum.inl x50))) (fun (x51, x52) => (((some (x51, x52))).bind fun r => some (Sum.inr r))))) : Option ((List Int) ⊕ ((List Int) × GErr))).bind (Sum.elim (fun (x45 : (List Int)) => (if (decide ((16384 : Int) < (x45.length : Int))) = true then ((f_fault_New (⟨#[98, 97, 116, 99, 104]⟩ : ByteArray) (x45.length : Int) (6 : Int)).bind fun (r77 : GErr) => (some ([], r77))) else (some (x45, GErr.nil)))) some)))))))
def f_batch_Put_post (a0 : T_api_Batch) (v0_2 : Value) : ((List Int) × GErr) → Value → IM → HL → Prop :=
  fun (p_ : ((List Int) × GErr)) (v : Value) (M' : IM) (H' : HL) => match p_ with | (r0, r1) => ∃ vz0 cz0, (.tuple #[vz0, (GV r1)]) = v ∧ H' = [cz0] ∧ OwnS (Kd.int .u8) M' vz0 r0 cz0
theorem f_batch_Put_ok (a0 : T_api_Batch) (M : IM) (v0_2 : Value) (h0_2 : RS kd_api_Record M v0_2 a0.Records) (res : ((List Int) × GErr)) (h : f_batch_Put a0 = some res) :
    Tri Tryz.prog 15 #[(a24_ a0 v0_2)] M [] (f_batch_Put_post a0 v0_2 res) := by
 unfold f_batch_Put at h
 refine Tri.enter (fn := Tryz.f15) Tryz.func15 rfl (Nat.le_of_ble_eq_true rfl) ?_
 intro F ρ hρ
 refine Sr ?_
 refine WL.eff (EO.box (cs := (l24 a0 v0_2).toArray) (congrArg Value.cells (asE (a24_ a0 v0_2) (hρ 0)))) rfl ?_
 rintro _ _ _ - ⟨rfl, g21, rfl, rfl⟩
 refine Pa (.slice none 0 0) rfl rfl ?_
 refine Pa (GV GErr.nil) rfl rfl ?_
 refine Nt ?_
 refine WC.seq ?_
 refine Sr ?_
 refine Pu (a24_ a0 v0_2) (PO.loadBA (cs := (l24 a0 v0_2)) 0 ag24 sz24 rfl rfl rfl) rfl ?_
 obtain ⟨r22, hr23, h⟩ := bnd h
 refine WL.eff (EO.call0 co9 (f_batch_Check_ok a0 _ _ h0_2 r22 hr23) (args1 rfl)) rfl ?_
 rintro _ M24 _ hle25 ⟨_, ⟨rfl, rfl⟩, rfl⟩
 have h0_2 := h0_2.mono hle25
 refine WL.a0 ?_
 refine Pa (GV r22) rfl rfl ?_
 refine Ns ?_
 refine Pm (GV r22) rfl rfl ?_
 refine Pu (.bool (!r22.isNil)) (PO.errNotNil Tryz.underlying29 rfl) rfl ?_
 refine Nt ?_
 refine WC.cond (b := !r22.isNil) rfl (fun hb27 => ?_) (fun hb27 => ?_)
 have h := ite_t hb27 h
 refine Sr ?_
 refine Pm (GV r22) rfl rfl ?_
 refine Pa (.slice none 0 0) rfl rfl ?_
 refine Pa (GV r22) rfl rfl ?_
 refine Nt ?_
 refine WC.ret ?_
 refine WQ.thenR ?_
 refine WQ.e0 ?_
 refine WQ.f1 ?_
 refine WQ.drop ?_
 exact WQ.returnsF h [[]] rfl (results2 rfl rfl rfl) hle25 ⟨(.slice none 0 0), [], rfl, rfl, (OwnS.nil _ _)⟩
 have h := ite_f hb27 h
 refine WC.skip ?_
 refine WQ.thenC ?_
 refine WC.seq ?_
 refine WC.draw [0, 1, 3, 0, 8, 31, 0, 64, 192, 511, 1023] (.pure 0 (.pure 1 (.pure 3 (.pure 4 (.pure 6 (.pure 7 (.pure 8 (.alt 2 (.alt 5 (.alt 9 (.pure 10 .done) .none) .none) .none)))))))) mixed (by kernel_rfl) ?_
 refine Tp (pt g21 0) rfl (PO.fieldAddr fo24_0 rfl rfl) rfl ?_
 refine Tp (.int .i64 a0.Term) rfl (PO.loadB 0 pl3 rfl rfl rfl) rfl ?_
 refine Tp (pt g21 1) rfl (PO.fieldAddr fo24_1 rfl rfl) rfl ?_
 refine Tp (.int .i64 a0.Base) rfl (PO.loadB 0 pl3 rfl rfl rfl) rfl ?_
 refine Tp (pt g21 2) rfl (PO.fieldAddr fo24_2 rfl rfl) rfl ?_
 refine Tp v0_2 rfl (PO.loadB 0 pl22 rfl rfl rfl) rfl ?_
 refine Tp (.int .i64 (a0.Records.length : Int)) rfl (PO.lenS Tryz.underlying22 rfl h0_2.len) rfl ?_
 obtain ⟨r30, hr31, h⟩ := bnd h
 refine WT.e0 ?_
 refine WT.alt rfl (EO.call1 co39 (f_wire_Int_ok [] a0.Term _ _ _ (OwnS.nil _ _) r30 hr31) (args2 rfl rfl)) rfl ?_ ?_
 rintro _ M32 _ hle33 ⟨_, ⟨vq34, cq34, rfl, rfl, hq34⟩, rfl⟩
 have h0_2 := h0_2.mono hle33
 refine ⟨(StabL.st (StabA.of rfl (PO.lenS Tryz.underlying22 rfl h0_2.len) rfl) (StabL.st (StabA.of rfl (PO.loadB 1 pl22 rfl rfl rfl) rfl) (StabL.st (StabA.of rfl (PO.fieldAddr fo24_2 rfl rfl) rfl) (StabL.st (StabA.of rfl (PO.loadB 1 pl3 rfl rfl rfl) rfl) (StabL.st (StabA.of rfl (PO.fieldAddr fo24_1 rfl rfl) rfl) (StabL.anc rfl (StabL.anc rfl trivial))))))), ?_⟩
 refine WT.a1 ?_
 obtain ⟨r35, hr36, h⟩ := bnd h
 refine WT.alt rfl (EO.call1 co39 (f_wire_Int_ok r30 a0.Base _ _ _ hq34 r35 hr36) (args2 rfl rfl)) rfl ?_ ?_
 rintro _ M37 _ hle38 ⟨_, ⟨vq39, cq39, rfl, rfl, hq39⟩, rfl⟩
 have h0_2 := h0_2.mono hle38
 have hq34 := hq34.mono hle38
 refine ⟨(StabL.st (StabA.of rfl (PO.lenS Tryz.underlying22 rfl h0_2.len) rfl) (StabL.st (StabA.of rfl (PO.loadB 1 pl22 rfl rfl rfl) rfl) (StabL.st (StabA.of rfl (PO.fieldAddr fo24_2 rfl rfl) rfl) (StabL.anc rfl (StabL.anc rfl (StabL.anc rfl (StabL.anc rfl trivial))))))), ?_⟩
 refine WT.a1 ?_
 obtain ⟨r40, hr41, h⟩ := bnd h
 refine WT.alt rfl (EO.call1 co39 (f_wire_Int_ok r35 (a0.Records.length : Int) _ _ _ hq39 r40 hr41) (args2 rfl rfl)) rfl ?_ ?_
 rintro _ M42 _ hle43 ⟨_, ⟨vq44, cq44, rfl, rfl, hq44⟩, rfl⟩
 have h0_2 := h0_2.mono hle43
 have hq34 := hq34.mono hle43
 have hq39 := hq39.mono hle43
 refine ⟨(StabL.anc rfl (StabL.anc rfl (StabL.anc rfl (StabL.anc rfl (StabL.anc rfl (StabL.anc rfl (StabL.anc rfl trivial))))))), ?_⟩
 refine WT.a1 ?_
 refine Tp vq44 rfl (PO.assign rfl) rfl ?_
 refine WT.fin ?_
 refine WQ.thenC ?_
 obtain ⟨j46, hj46, h⟩ := bnd h
 refine WC.joinE (fun (x45 : (List Int)) ρ' M' H' => ∃ vx45 cx45, M42.le M' ∧ [(g21, .cells (l24 a0 v0_2).toArray 24 (0, 0))] :: cx45 :: F = H' ∧ ρ' 5 = vx45 ∧ OwnS (Kd.int .u8) M' vx45 x45 cx45) j46 ?_ ?_
 have h346 := h
 have h := hj46
 refine Sr ?_
 refine Pu (pt g21 2) (PO.fieldAddr fo24_2 rfl rfl) rfl ?_
 refine Pu v0_2 (PO.loadB 1 pl22 rfl rfl rfl) rfl ?_
 refine Pu (.int .i64 (a0.Records.length : Int)) (PO.lenS Tryz.underlying22 rfl h0_2.len) rfl ?_
 refine Pm (.int .i64 0) rfl rfl ?_
 refine Nt ?_
 refine WC.block ?_
 refine WC.f1 ?_
 obtain ⟨e47, he47, hK47⟩ := bnd h
 clear h
 refine WC.loop he47 (fun (p_ : ((List Int) × Int)) ρ' M' H' => match p_ with | (x48, x49) => ∃ vx48 cx48, M42.le M' ∧ [(g21, .cells (l24 a0 v0_2).toArray 24 (0, 0))] :: cx48 :: F = H' ∧ ρ' 5 = vx48 ∧ ρ' 26 = v0_2 ∧ ρ' 27 = (.int .i64 (a0.Records.length : Int)) ∧ ρ' 28 = (.int .i64 x49) ∧ OwnS (Kd.int .u8) M' vx48 x48 cx48) ?_ ?_
 exact ⟨vq44, cq44, (IM.le.refl _), rfl, rfl, rfl, rfl, rfl, hq44⟩
 rintro ⟨x48, x49⟩ o47 ρ47 M47 H47 h ⟨vx48, cx48, hle47, rfl, hs47_5, hs47_26, hs47_27, hs47_28, hx48⟩
 unfold f_batch_Put_l0 at h
 have h0_2 := h0_2.mono hle47
 refine Sr ?_
 refine Pu (.bool (decide (x49 < (a0.Records.length : Int)))) (PO.lss hs47_28 hs47_27) rfl ?_
 refine Nt ?_
 refine WC.seq ?_
 refine WC.cond (b := decide (x49 < (a0.Records.length : Int))) rfl (fun hb53 => ?_) (fun hb53 => ?_)
 have h := ite_t hb53 h
 refine WC.skip ?_
 refine WQ.thenC ?_
 refine WC.seq ?_
 refine WC.block ?_
 refine Sr ?_
 refine Pm (.int .i64 x49) hs47_28 rfl ?_
 obtain ⟨hg54, h⟩ := grd_i h
 obtain ⟨p55, cs56, hat57, hrc58, hhas59⟩ := h0_2.at hg54.1 hg54.2 (by decide)
 obtain ⟨vw60_14, vw60_15, vw60_16, vw60_17, rfl, hw60_14, hw60_15, hw60_16, hw60_17⟩ := kd_api_Record_open hrc58
 refine Pu (.pointer (some p55)) (PO.indexAddr (n := a0.Records.length) Tryz.underlying22 sz67 hs47_26 hs47_28 hg54.1 hg54.2 hat57) rfl ?_
 refine Pu (a67_ (rd a0.Records x49) vw60_14 vw60_15 vw60_16 vw60_17) (PO.loadMA (cs := (l67 (rd a0.Records x49) vw60_14 vw60_15 vw60_16 vw60_17)) ag67 sz67 rfl hhas59) rfl ?_
 refine WL.eff (EO.alloc ze67 rfl) rfl ?_
 rintro _ _ _ - ⟨rfl, g61, rfl, rfl⟩
 refine Pa (.int .i64 x49) rfl rfl ?_
 refine WL.eff (EO.storeL (v := (a67_ (rd a0.Records x49) vw60_14 vw60_15 vw60_16 vw60_17)) (vl := (l67 (rd a0.Records x49) vw60_14 vw60_15 vw60_16 vw60_17)) (arr' := (l67 (rd a0.Records x49) vw60_14 vw60_15 vw60_16 vw60_17)) rfl sz67 rfl rfl (onesOf (Ones.cons rfl (Ones.cons rfl (Ones.cons rfl (Ones.cons rfl (Ones.cons rfl (Ones.cons rfl (Ones.cons rfl (Ones.cons rfl (Ones.cons rfl (Ones.cons rfl (Ones.cons rfl (Ones.cons rfl (Ones.cons rfl (Ones.cons rfl (Ones.cons (RS.one hw60_14) (Ones.cons (RS.one hw60_15) (Ones.cons (RS.one hw60_16) (Ones.cons (RS.one hw60_17) Ones.nil))))))))))))))))))) rfl rfl (by kernel_rfl)) rfl ?_
 rintro _ _ _ - ⟨rfl, rfl⟩
 refine Ns ?_
 refine Pm vx48 hs47_5 rfl ?_
 refine Pu (a67_ (rd a0.Records x49) vw60_14 vw60_15 vw60_16 vw60_17) (PO.loadBA (cs := (l67 (rd a0.Records x49) vw60_14 vw60_15 vw60_16 vw60_17)) 0 ag67 sz67 rfl rfl rfl) rfl ?_
 obtain ⟨⟨r62, r63⟩, hr64, h⟩ := bnd h
 refine WL.f2 ?_
 refine WL.eff (EO.call1 co40 (f_record_Put_ok x48 (rd a0.Records x49) _ _ _ _ _ _ _ hx48 hw60_14 hw60_15 hw60_16 hw60_17 (r62, r63) hr64) (args2 rfl rfl)) rfl ?_
 rintro _ M65 _ hle66 ⟨_, ⟨vq67, cq67, rfl, rfl, hq67⟩, rfl⟩
 have hx48 := hx48.mono hle66
 have h0_2 := h0_2.mono hle66
 have hw60_14 := hw60_14.mono hle66
 have hw60_15 := hw60_15.mono hle66
 have hw60_16 := hw60_16.mono hle66
 have hw60_17 := hw60_17.mono hle66
 refine WL.a1 ?_
 refine Pm (.tuple #[vq67, (GV r63)]) rfl rfl ?_
 refine Pu vq67 (PO.extract rfl rfl) rfl ?_
 refine Pu (GV r63) (PO.extract rfl rfl) rfl ?_
 refine Pa vq67 rfl rfl ?_
 refine Pa (GV r63) rfl rfl ?_
 refine Nt ?_
 refine WC.seq ?_
 refine Sr ?_
 refine Pm (GV r63) rfl rfl ?_
 refine Pu (.bool (!r63.isNil)) (PO.errNotNil Tryz.underlying29 rfl) rfl ?_
 refine Nt ?_
 refine WC.cond (b := !r63.isNil) rfl (fun hb69 => ?_) (fun hb69 => ?_)
 have h := ite_t hb69 h
 refine Sr ?_
 refine Pm (.int .i64 x49) rfl rfl ?_
 refine Pm (GV r63) rfl rfl ?_
 obtain ⟨r70, hr71, h⟩ := bnd h
 refine WL.eff (EO.call0 co33 (f_fault_Wrap_ok (⟨#[114, 101, 99, 111, 114, 100]⟩ : ByteArray) x49 r63 _ r70 hr71) (args3 rfl rfl rfl)) rfl ?_
 rintro _ M72 _ hle73 ⟨_, ⟨rfl, rfl⟩, rfl⟩
 have h0_2 := h0_2.mono hle73
 have hq67 := hq67.mono hle73
 have hw60_14 := hw60_14.mono hle73
 have hw60_15 := hw60_15.mono hle73
 have hw60_16 := hw60_16.mono hle73
 have hw60_17 := hw60_17.mono hle73
 refine WL.a0 ?_
 refine Pa (.slice none 0 0) rfl rfl ?_
 refine Pa (GV r70) rfl rfl ?_
 refine Nt ?_
 refine WC.ret ?_
 refine WQ.thenR ?_
 refine WQ.blockR ?_
 refine WQ.thenR ?_
 refine WQ.leaveR (Sum.inr ([], r70)) (Option.some.inj h).symm (fun heq47 => ?_)
 subst heq47
 have h := (elimR hK47)
 refine WQ.blockR ?_
 refine WQ.thenR ?_
 have h := KK.early h h346
 refine WQ.e0 ?_
 refine WQ.f1 ?_
 refine WQ.drop ?_
 refine WQ.f1 ?_
 refine WQ.drop ?_
 refine WQ.f1 ?_
 refine WQ.drop ?_
 exact WQ.returnsF h [[]] rfl (results2 rfl rfl rfl) ((((((hle25.trans hle33).trans hle38).trans hle43).trans hle47).trans hle66).trans hle73) ⟨(.slice none 0 0), [], rfl, rfl, (OwnS.nil _ _)⟩
 have h := ite_f hb69 h
 refine WC.skip ?_
 refine WQ.thenC ?_
 refine WC.region ?_
 refine Pm vq67 rfl rfl ?_
 refine Pa vq67 rfl rfl ?_
 refine WL.nil ?_
 refine WQ.blockN ?_
 refine WQ.thenC ?_
 refine WC.region ?_
 refine Pu (.int .i64 (IntKind.i64.wrap (x49 + 1))) (PO.add hs47_28 rfl) rfl ?_
 refine Pm (.int .i64 (IntKind.i64.wrap (x49 + 1))) rfl rfl ?_
 refine WL.nil ?_
 refine WQ.f1 ?_
 refine WQ.drop ?_
 refine WQ.f1 ?_
 refine WQ.again (r62, IntKind.i64.wrap (x49 + 1)) (Option.some.inj h).symm ?_
 exact ⟨vq67, cq67, (hle47.trans hle66), rfl, rfl, hs47_26, hs47_27, rfl, hq67⟩
 have h := ite_f hb53 h
 refine WC.exit ?_
 refine WQ.thenE ?_
 refine WQ.leaveE (Sum.inl x48) (Option.some.inj h).symm (fun heq47 => ?_)
 subst heq47
 have h := elimL hK47
 refine WQ.blockH ?_
 refine WQ.thenFE h ?_
 exact ⟨vx48, cx48, hle47, rfl, hs47_5, hx48⟩
 rintro x45 ρ46 M46 H46 rfl ⟨vx45, cx45, hle46, rfl, hs46_5, hx45⟩
 have h := (Sum.elim_inl _ _ _).symm.trans h
 have h0_2 := h0_2.mono hle46
 refine WC.seq ?_
 refine Sr ?_
 refine Pm vx45 hs46_5 rfl ?_
 refine Pu (.int .i64 (x45.length : Int)) (PO.lenS Tryz.underlying40 rfl hx45.len) rfl ?_
 refine Pu (.bool (decide ((16384 : Int) < (x45.length : Int)))) (PO.gtr rfl rfl) rfl ?_
 refine Nt ?_
 refine WC.cond (b := decide ((16384 : Int) < (x45.length : Int))) rfl (fun hb76 => ?_) (fun hb76 => ?_)
 have h := ite_t hb76 h
 refine Sr ?_
 refine Pm vx45 hs46_5 rfl ?_
 refine Pu (.int .i64 (x45.length : Int)) (PO.lenS Tryz.underlying40 rfl hx45.len) rfl ?_
 obtain ⟨r77, hr78, h⟩ := bnd h
 refine WL.eff (EO.call0 co31 (f_fault_New_ok (⟨#[98, 97, 116, 99, 104]⟩ : ByteArray) (x45.length : Int) (6 : Int) _ r77 hr78) (args3 rfl rfl rfl)) rfl ?_
 rintro _ M79 _ hle80 ⟨_, ⟨rfl, rfl⟩, rfl⟩
 have hx45 := hx45.mono hle80
 have h0_2 := h0_2.mono hle80
 refine WL.a0 ?_
 refine Pa (.slice none 0 0) rfl rfl ?_
 refine Pa (GV r77) rfl rfl ?_
 refine Nt ?_
 refine WC.ret ?_
 refine WQ.thenR ?_
 refine WQ.e0 ?_
 refine WQ.f1 ?_
 refine WQ.drop ?_
 refine WQ.f1 ?_
 refine WQ.drop ?_
 exact WQ.returnsF h [[]] rfl (results2 rfl rfl rfl) (((((hle25.trans hle33).trans hle38).trans hle43).trans hle46).trans hle80) ⟨(.slice none 0 0), [], rfl, rfl, (OwnS.nil _ _)⟩
 have h := ite_f hb76 h
 refine WC.skip ?_
 refine WQ.thenC ?_
 refine Sr ?_
 refine Pm vx45 hs46_5 rfl ?_
 refine Pa vx45 rfl rfl ?_
 refine Pa (GV GErr.nil) rfl rfl ?_
 refine Nt ?_
 refine WC.ret ?_
 refine WQ.drop ?_
 exact WQ.returnsF h [cx45] rfl (results2 rfl rfl rfl) ((((hle25.trans hle33).trans hle38).trans hle43).trans hle46) ⟨vx45, cx45, rfl, rfl, hx45⟩
 exact WT.no
 exact WT.no
 exact WT.no

noncomputable def f_wire_Read (a0 : (List Int)) : Option T_wire_Reader :=
  (some (⟨a0, (0 : Int), GErr.nil⟩ : T_wire_Reader))
def f_wire_Read_post (a0 : (List Int)) (v0 : Value) : T_wire_Reader → Value → IM → HL → Prop :=
  fun (r0 : T_wire_Reader) (v : Value) (M' : IM) (H' : HL) => ∃ b0 vq0_0, (.pointer (some ⟨b0, 0, none⟩)) = v ∧ H' = [[(b0, .cells #[vq0_0, (.int .i64 r0.at_), (GV r0.err)] 85 (0, 0))]] ∧ RS (Kd.int .u8) M' vq0_0 r0.b
theorem f_wire_Read_ok (a0 : (List Int)) (M : IM) (v0 : Value) (h0 : RS (Kd.int .u8) M v0 a0) (res : T_wire_Reader) (h : f_wire_Read a0 = some res) :
    Tri Tryz.prog 20 #[v0] M [] (f_wire_Read_post a0 v0 res) := by
 unfold f_wire_Read at h
 refine Tri.enter (fn := Tryz.f20) Tryz.func20 rfl (Nat.le_of_ble_eq_true rfl) ?_
 intro F ρ hρ
 refine Sr ?_
 refine Pa (.pointer none) rfl rfl ?_
 refine Ns ?_
 refine Pm v0 (hρ 0) rfl ?_
 refine Pu (.agg #[v0, (.int .i64 0), (GV GErr.nil)]) (PO.buildL (cl := [v0, (.int .i64 0), (GV GErr.nil)]) ze85 fp85 (Parts.cons ((congrArg Value.cells (show ev _ _ = v0 from rfl)).trans h0.cells) Parts.nil) rfl) rfl ?_
 refine WL.eff (EO.box (cs := #[v0, (.int .i64 0), (GV GErr.nil)]) (congrArg Value.cells (show ev _ _ = (.agg #[v0, (.int .i64 0), (GV GErr.nil)]) from rfl))) rfl ?_
 rintro _ _ _ - ⟨rfl, g21, rfl, rfl⟩
 refine Pa (pt g21 0) rfl rfl ?_
 refine Nt ?_
 refine WC.ret ?_
 exact WQ.returnsF h [[(g21, .cells #[v0, (.int .i64 0), (GV GErr.nil)] 85 (0, 0))]] rfl (results1 rfl rfl) (IM.le.refl _) ⟨g21, v0, rfl, rfl, h0⟩

noncomputable def f_wire_Reader_At (a0 : T_wire_Reader) : Option Int :=
  (some a0.at_)
def f_wire_Reader_At_post (a0 : T_wire_Reader) (v0_0 : Value) (g0 : Nat) : Int → Value → IM → HL → Prop :=
  fun (r0 : Int) (v : Value) (M' : IM) (H' : HL) => (.int .i64 r0) = v ∧ H' = [[(g0, .cells #[v0_0, (.int .i64 a0.at_), (GV a0.err)] 85 (0, 0))]]
theorem f_wire_Reader_At_ok (a0 : T_wire_Reader) (M : IM) (v0_0 : Value) (g0 : Nat) (h0_0 : RS (Kd.int .u8) M v0_0 a0.b) (res : Int) (h : f_wire_Reader_At a0 = some res) :
    Tri Tryz.prog 23 #[(pt g0 0)] M [[(g0, .cells #[v0_0, (.int .i64 a0.at_), (GV a0.err)] 85 (0, 0))]] (f_wire_Reader_At_post a0 v0_0 g0 res) := by
 unfold f_wire_Reader_At at h
 refine Tri.enter (fn := Tryz.f23) Tryz.func23 rfl (Nat.le_of_ble_eq_true rfl) ?_
 intro F ρ hρ
 refine Sr ?_
 refine Pa (.int .i64 0) rfl rfl ?_
 refine Ns ?_
 refine Pm (pt g0 0) (hρ 0) rfl ?_
 refine Pu (pt g0 0) (PO.nilCheck rfl) rfl ?_
 refine Pu (pt g0 1) (PO.fieldAddr fo85_1 rfl rfl) rfl ?_
 refine Pu (.int .i64 a0.at_) (PO.loadB 0 pl3 rfl rfl rfl) rfl ?_
 refine Pa (.int .i64 a0.at_) rfl rfl ?_
 refine Nt ?_
 refine WC.ret ?_
 exact WQ.returnsF h [[(g0, .cells #[v0_0, (.int .i64 a0.at_), (GV a0.err)] 85 (0, 0))]] rfl (results1 rfl rfl) (IM.le.refl _) ⟨rfl, rfl⟩

noncomputable def f_wire_Reader_fail (a0 : T_wire_Reader) (a1 : ByteArray) (a2 : Int) (a3 : Int) : Option GErr :=
  (if a0.err.isNil = true then ((f_fault_New a1 a2 a3).bind fun (r22 : GErr) => (some r22)) else (some a0.err))
def f_wire_Reader_fail_post (a0 : T_wire_Reader) (a1 : ByteArray) (a2 : Int) (a3 : Int) (v0_0 : Value) (g0 : Nat) : GErr → Value → IM → HL → Prop :=
  fun (r0 : GErr) (v : Value) (M' : IM) (H' : HL) => (.tuple #[]) = v ∧ H' = [[(g0, .cells #[v0_0, (.int .i64 a0.at_), (GV r0)] 85 (0, 0))]]
theorem f_wire_Reader_fail_ok (a0 : T_wire_Reader) (a1 : ByteArray) (a2 : Int) (a3 : Int) (M : IM) (v0_0 : Value) (g0 : Nat) (h0_0 : RS (Kd.int .u8) M v0_0 a0.b) (res : GErr) (h : f_wire_Reader_fail a0 a1 a2 a3 = some res) :
    Tri Tryz.prog 78 #[(pt g0 0), (.string a1), (.int .i64 a2), (.int .i64 a3)] M [[(g0, .cells #[v0_0, (.int .i64 a0.at_), (GV a0.err)] 85 (0, 0))]] (f_wire_Reader_fail_post a0 a1 a2 a3 v0_0 g0 res) := by
 unfold f_wire_Reader_fail at h
 refine Tri.enter (fn := Tryz.f78) Tryz.func78 rfl (Nat.le_of_ble_eq_true rfl) ?_
 intro F ρ hρ
 refine Sr ?_
 refine Pm (pt g0 0) (hρ 0) rfl ?_
 refine Pu (pt g0 0) (PO.nilCheck rfl) rfl ?_
 refine Pu (pt g0 2) (PO.fieldAddr fo85_2 rfl rfl) rfl ?_
 refine Pu (GV a0.err) (PO.loadB 0 pl29 rfl rfl rfl) rfl ?_
 refine Pu (.bool a0.err.isNil) (PO.errNil Tryz.underlying29 rfl) rfl ?_
 refine Nt ?_
 refine WC.cond (b := a0.err.isNil) rfl (fun hb21 => ?_) (fun hb21 => ?_)
 have h := ite_t hb21 h
 refine WC.region ?_
 refine Pm (pt g0 0) (hρ 0) rfl ?_
 refine Pm (.string a1) (hρ 1) rfl ?_
 refine Pm (.int .i64 a2) (hρ 2) rfl ?_
 refine Pm (.int .i64 a3) (hρ 3) rfl ?_
 obtain ⟨r22, hr23, h⟩ := bnd h
 refine WL.eff (EO.call0 co31 (f_fault_New_ok a1 a2 a3 _ r22 hr23) (args3 rfl rfl rfl)) rfl ?_
 rintro _ M24 _ hle25 ⟨_, ⟨rfl, rfl⟩, rfl⟩
 have h0_0 := h0_0.mono hle25
 refine WL.a0 ?_
 refine Pu (pt g0 0) (PO.nilCheck rfl) rfl ?_
 refine Pu (pt g0 2) (PO.fieldAddr fo85_2 rfl rfl) rfl ?_
 refine WL.eff (EO.storeL (v := (GV r22)) (vl := [(GV r22)]) (arr' := [v0_0, (.int .i64 a0.at_), (GV r22)]) (GErr.val_cells _ _ _ _) sz29 rfl rfl (onesOf (Ones.cons (GErr.val_one _ _ _ _) Ones.nil)) rfl rfl rfl) rfl ?_
 rintro _ _ _ - ⟨rfl, rfl⟩
 refine WL.nil ?_
 exact WQ.endsF h [[(g0, .cells #[v0_0, (.int .i64 a0.at_), (GV r22)] 85 (0, 0))]] rfl (results0 rfl) hle25 ⟨rfl, rfl⟩
 have h := ite_f hb21 h
 refine WC.skip ?_
 exact WQ.endsF h [[(g0, .cells #[v0_0, (.int .i64 a0.at_), (GV a0.err)] 85 (0, 0))]] rfl (results0 rfl) (IM.le.refl _) ⟨rfl, rfl⟩

noncomputable def f_wire_Reader_Num_1 (a0 : Int) (a1 : (List Int)) (a2 : Int) : Option (Int × Int) :=
  (grd (0 ≤ a2 ∧ a2 < a1.length) (some (orI .u64 (shlI .u64 a0 (8 : Int)) (IntKind.u64.wrap (rd a1 a2)), IntKind.i64.wrap (a2 + (1 : Int)))))
def f_wire_Reader_Num_1_post (a0 : Int) (a1 : (List Int)) (a2 : Int) (v1 : Value) (g0 g1 g2 : Nat) : (Int × Int) → Value → IM → HL → Prop :=
  fun (p_ : (Int × Int)) (v : Value) (M' : IM) (H' : HL) => match p_ with | (r0, r1) => (.tuple #[]) = v ∧ H' = [[(g0, .cells #[(.int .u64 r0)] 112 (0, 0))], [(g1, .cells #[v1] 40 (0, 0))], [(g2, .cells #[(.int .i64 r1)] 3 (0, 0))]]
theorem f_wire_Reader_Num_1_ok (a0 : Int) (a1 : (List Int)) (a2 : Int) (M : IM) (v1 : Value) (g0 g1 g2 : Nat) (h1 : RS (Kd.int .u8) M v1 a1) (res : (Int × Int)) (h : f_wire_Reader_Num_1 a0 a1 a2 = some res) :
    Tri Tryz.prog 108 #[(pt g0 0), (pt g1 0), (pt g2 0)] M [[(g0, .cells #[(.int .u64 a0)] 112 (0, 0))], [(g1, .cells #[v1] 40 (0, 0))], [(g2, .cells #[(.int .i64 a2)] 3 (0, 0))]] (f_wire_Reader_Num_1_post a0 a1 a2 v1 g0 g1 g2 res) := by
 unfold f_wire_Reader_Num_1 at h
 refine Tri.enter (fn := Tryz.f108) Tryz.func108 rfl (Nat.le_of_ble_eq_true rfl) ?_
 intro F ρ hρ
 refine WC.seq ?_
 refine WC.draw [0, 1, 0, 0, 12, 28, 60, 127, 255] (.pure 0 (.pure 1 (.pure 2 (.pure 3 (.pure 4 (.pure 5 (.pure 6 (.pure 7 (.alt 8 .done .none))))))))) mixed (by kernel_rfl) ?_
 refine Tp (.int .u64 a0) rfl (PO.loadB 0 pl112 (hρ 0) rfl rfl) rfl ?_
 refine Tp (.int .u64 (shlI .u64 a0 (8 : Int))) rfl (PO.shl rfl rfl (by decide)) rfl ?_
 refine Tp v1 rfl (PO.loadB 1 pl40 (hρ 1) rfl rfl) rfl ?_
 refine Tp (.int .i64 a2) rfl (PO.loadB 2 pl3 (hρ 2) rfl rfl) rfl ?_
 obtain ⟨hg21, h⟩ := grd_i h
 obtain ⟨p22, cs23, hat24, hrc25, hhas26⟩ := h1.at hg21.1 hg21.2 (by decide)
 obtain rfl := hrc25
 refine Tp (.pointer (some p22)) rfl (PO.indexAddr (n := a1.length) Tryz.underlying40 sz5 rfl rfl hg21.1 hg21.2 hat24) rfl ?_
 refine Tp (.int .u8 (rd a1 a2)) rfl (PO.loadM pl5 rfl (IM.has0 hhas26)) rfl ?_
 refine Tp (.int .u64 (IntKind.u64.wrap (rd a1 a2))) rfl (PO.conv us5 Tryz.underlying112 rfl) rfl ?_
 refine Tp (.int .u64 (orI .u64 (shlI .u64 a0 (8 : Int)) (IntKind.u64.wrap (rd a1 a2)))) rfl (PO.or rfl rfl) rfl ?_
 refine WT.alt rfl (EO.storeL (v := (.int .u64 (orI .u64 (shlI .u64 a0 (8 : Int)) (IntKind.u64.wrap (rd a1 a2))))) (vl := [(.int .u64 (orI .u64 (shlI .u64 a0 (8 : Int)) (IntKind.u64.wrap (rd a1 a2))))]) (arr' := [(.int .u64 (orI .u64 (shlI .u64 a0 (8 : Int)) (IntKind.u64.wrap (rd a1 a2))))]) rfl sz112 (hρ 0) rfl (onesOf (Ones.cons rfl Ones.nil)) rfl rfl rfl) rfl ?_ ?_
 rintro _ _ _ - ⟨rfl, rfl⟩
 refine ⟨(StabL.anc rfl (StabL.anc rfl (StabL.anc rfl (StabL.anc rfl (StabL.anc rfl (StabL.anc rfl (StabL.anc rfl (StabL.anc rfl trivial)))))))), ?_⟩
 refine WT.fin ?_
 refine WQ.thenC ?_
 refine WC.region ?_
 refine Pu (.int .i64 a2) (PO.loadB 2 pl3 (hρ 2) rfl rfl) rfl ?_
 refine Pu (.int .i64 (IntKind.i64.wrap (a2 + 1))) (PO.add rfl rfl) rfl ?_
 refine WL.f2 ?_
 refine WL.eff (EO.storeL (v := (.int .i64 (IntKind.i64.wrap (a2 + 1)))) (vl := [(.int .i64 (IntKind.i64.wrap (a2 + 1)))]) (arr' := [(.int .i64 (IntKind.i64.wrap (a2 + 1)))]) rfl sz3 (hρ 2) rfl (onesOf (Ones.cons rfl Ones.nil)) rfl rfl rfl) rfl ?_
 rintro _ _ _ - ⟨rfl, rfl⟩
 refine WL.nil ?_
 refine WQ.f2 ?_
 refine WQ.f2 ?_
 exact WQ.endsF h [[(g0, .cells #[(.int .u64 (orI .u64 (shlI .u64 a0 (8 : Int)) (IntKind.u64.wrap (rd a1 a2))))] 112 (0, 0))], [(g1, .cells #[v1] 40 (0, 0))], [(g2, .cells #[(.int .i64 (IntKind.i64.wrap (a2 + 1)))] 3 (0, 0))]] rfl (results0 rfl) (IM.le.refl _) ⟨rfl, rfl⟩
 exact WT.no


end Go.Proofs.YtjiffdgidodebaaGreatDoor.G
