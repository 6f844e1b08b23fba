/- Go functions: what they come to, and that they do. Printed by a program of the session (gen). -/
import Derived.Test.YtjgnbbakamellaaDoorAF
import Derived.Test.YtjgnbbakamellaaDoorA13
import Derived.Test.YtjgnbbakamellaaDoorKConv
import Derived.Test.YtjgnbbakamellaaDoorKEq2
set_option linter.unusedVariables false
set_option linter.unusedSimpArgs false
namespace Go.Proofs.YtjgnbbakamellaaDoor.G
open Go Go.KK

noncomputable def f_ref02_Num_l0 (s_ : (Int × (List Int) × Int)) : Option ((Int × (List Int) × Int) ⊕ (List Int)) :=
  match s_ with
  | (x36, x37, x38) =>
    (if (decide ((0 : Int) ≤ x38)) = true then (grd (0 ≤ x38 ∧ x38 < x37.length) (some (Sum.inl (IntKind.u64.wrap (x36.tdiv (256 : Int)), x37.set (x38).toNat (IntKind.u8.wrap (x36.tmod (256 : Int))), IntKind.i64.wrap (x38 - (1 : Int)))))) else (some (Sum.inr x37)))
noncomputable def f_ref02_Num_l1 (r24 : Int) (s_ : (Int × Int)) : Option ((Int × Int) ⊕ Int) :=
  match s_ with
  | (x53, x54) =>
    (if (decide (x54 < r24)) = true then (some (Sum.inl (IntKind.u8.wrap (x53 + (64 : Int)), IntKind.i64.wrap (x54 * (2 : Int))))) else (some (Sum.inr x53)))
noncomputable def f_ref02_Num (a0 : Int) : Option (List Int) :=
  (((if (decide ((4611686018427387903 : Int) < a0)) = true then (some (4611686018427387903 : Int)) else (some a0)) : Option Int).bind fun (x21 : Int) => ((f_ref02_size x21).bind fun (r24 : Int) => (grd (0 ≤ r24 ∧ r24 ≤ 274877906944) ((((iter (f_ref02_Num_l0) (x21, List.replicate (r24).toNat (0 : Int), IntKind.i64.wrap (r24 - (1 : Int)))).bind (fun (x39 : (List Int)) => (some x39))) : Option (List Int)).bind fun (x33 : (List Int)) => ((((iter (f_ref02_Num_l1 r24) ((0 : Int), (1 : Int))).bind (fun (x55 : Int) => (some x55))) : Option Int).bind fun (x50 : Int) => (grd (0 ≤ (0 : Int) ∧ (0 : Int) < x33.length) (grd (0 ≤ (0 : Int) ∧ (0 : Int) < x33.length) (some (x33.set ((0 : Int)).toNat (IntKind.u8.wrap ((rd x33 (0 : Int)) + x50)))))))))))
def f_ref02_Num_post (a0 : Int) : (List Int) → Value → IM → HL → Prop :=
  fun (r0 : (List Int)) (v : Value) (M' : IM) (H' : HL) => ∃ vz0 cz0, vz0 = v ∧ H' = [cz0] ∧ OwnS (Kd.int .u8) M' vz0 r0 cz0
set_option maxHeartbeats 8000000 in
set_option maxRecDepth 100000 in
theorem f_ref02_Num_ok (a0 : Int) (M : IM) (res : (List Int)) (h : f_ref02_Num a0 = some res) :
    Tri Tryd.prog 103 #[(.int .u64 a0)] M [] (f_ref02_Num_post a0 res) := by
 unfold f_ref02_Num at h
 refine Tri.enter (fn := Tryd.f103) Tryd.func103 rfl (Nat.le_of_ble_eq_true rfl) ?_
 intro F ρ hρ
 refine Sr ?_
 refine Pa (.slice none 0 0) rfl rfl ?_
 refine Ns ?_
 refine Pm (.int .u64 a0) (hρ 0) rfl ?_
 refine Pa (.int .u64 a0) rfl rfl ?_
 refine Nt ?_
 obtain ⟨x21, hj22, h⟩ := bnd h
 refine WC.joinF (fun (x21 : Int) ρ' M' H' => M.le M' ∧ F = H' ∧ ρ' 3 = (.int .u64 x21)) x21 ?_ ?_
 have h322 := h
 have h := hj22
 refine Sr ?_
 refine Pm (.int .u64 a0) rfl rfl ?_
 refine Pu (.bool (decide ((4611686018427387903 : Int) < a0))) (PO.gtr rfl rfl) rfl ?_
 refine Nt ?_
 refine WC.cond (b := decide ((4611686018427387903 : Int) < a0)) rfl (fun hb23 => ?_) (fun hb23 => ?_)
 have h := ite_t hb23 h
 refine WC.region ?_
 refine Pa (.int .u64 4611686018427387903) rfl rfl ?_
 refine WL.nil ?_
 obtain rfl := Option.some.inj h
 refine WQ.thenJ ?_
 exact ⟨(IM.le.refl _), rfl, rfl⟩
 have h := ite_f hb23 h
 refine WC.skip ?_
 obtain rfl := Option.some.inj h
 refine WQ.thenJ ?_
 exact ⟨(IM.le.refl _), rfl, rfl⟩
 rintro ρ22 M22 H22 ⟨hle22, rfl, hs22_3⟩
 refine Sr ?_
 refine Pm (.int .u64 x21) hs22_3 rfl ?_
 obtain ⟨r24, hr25, h⟩ := bnd h
 refine WL.eff (EO.call0 co111 (f_ref02_size_ok x21 _ r24 hr25) (args1 rfl)) rfl ?_
 rintro _ M26 _ hle27 ⟨_, ⟨rfl, rfl⟩, rfl⟩
 refine WL.a0 ?_
 refine Pa (.int .i64 r24) rfl rfl ?_
 refine Ns ?_
 refine Pm (.int .i64 r24) rfl rfl ?_
 obtain ⟨hg32, h⟩ := grd_i h
 refine WL.eff (EO.makeSlice (dd := (Kd.int .u8)) Tryd.underlying26 in5 rfl rfl rfl rfl rfl hg32.1 (by decide) (makeB rfl hg32.1 hg32.2)) rfl ?_
 rintro v31 _ _ - ⟨rfl, c29, rfl, h30⟩
 refine Pa v31 rfl rfl ?_
 refine Nt ?_
 obtain ⟨x33, hj34, h⟩ := bnd h
 refine WC.joinF (fun (x33 : (List Int)) ρ' M' H' => ∃ vx33 cx33, M26.le M' ∧ cx33 :: F = H' ∧ ρ' 4 = (.int .i64 r24) ∧ ρ' 5 = vx33 ∧ OwnS (Kd.int .u8) M' vx33 x33 cx33) x33 ?_ ?_
 have h334 := h
 have h := hj34
 refine Sr ?_
 refine Pm (.int .i64 r24) rfl rfl ?_
 refine Pu (.int .i64 (IntKind.i64.wrap (r24 - (1 : Int)))) (PO.sub rfl rfl) rfl ?_
 refine Pa (.int .i64 (IntKind.i64.wrap (r24 - (1 : Int)))) rfl rfl ?_
 refine Nt ?_
 refine WC.block ?_
 obtain ⟨e35, he35, hK35⟩ := bnd h
 clear h
 refine WC.loop he35 (fun (p_ : (Int × (List Int) × Int)) ρ' M' H' => match p_ with | (x36, x37, x38) => ∃ vx37 cx37, M26.le M' ∧ cx37 :: F = H' ∧ ρ' 3 = (.int .u64 x36) ∧ ρ' 4 = (.int .i64 r24) ∧ ρ' 5 = vx37 ∧ ρ' 6 = (.int .i64 x38) ∧ OwnS (Kd.int .u8) M' vx37 x37 cx37) ?_ ?_
 exact ⟨v31, c29, (IM.le.refl _), rfl, hs22_3, rfl, rfl, rfl, h30⟩
 rintro ⟨x36, x37, x38⟩ o35 ρ35 M35 H35 h ⟨vx37, cx37, hle35, rfl, hs35_3, hs35_4, hs35_5, hs35_6, hx37⟩
 unfold f_ref02_Num_l0 at h
 refine WC.seq ?_
 refine Sr ?_
 refine Pm (.int .i64 x38) hs35_6 rfl ?_
 refine Pu (.bool (decide ((0 : Int) ≤ x38))) (PO.geq rfl rfl) rfl ?_
 refine Nt ?_
 refine WC.cond (b := decide ((0 : Int) ≤ x38)) rfl (fun hb40 => ?_) (fun hb40 => ?_)
 have h := ite_t hb40 h
 refine WC.skip ?_
 refine WQ.thenC ?_
 refine WC.seq ?_
 refine WC.block ?_
 refine Sr ?_
 refine Pm vx37 hs35_5 rfl ?_
 refine Pm (.int .i64 x38) hs35_6 rfl ?_
 refine Pm (.int .u64 x36) hs35_3 rfl ?_
 refine Pu (.int .u64 (x36.tmod (256 : Int))) (PO.rem rfl rfl (by decide)) rfl ?_
 refine Pu (.int .u8 (IntKind.u8.wrap (x36.tmod (256 : Int)))) (PO.conv us42 Tryd.underlying5 rfl) rfl ?_
 obtain ⟨hg41, h⟩ := grd_i h
 obtain ⟨p42, cs43, hat44, hrc45, hhas46⟩ := hx37.at hg41.1 hg41.2
 obtain rfl := hrc45
 refine Pu (.pointer (some p42)) (PO.indexAddr (n := x37.length) Tryd.underlying26 sz5 rfl rfl hg41.1 hg41.2 hat44) rfl ?_
 refine WL.eff (EO.storeOwn (dd := (Kd.int .u8)) (a := (IntKind.u8.wrap (x36.tmod (256 : Int)))) sz5 rfl hat44 rfl hg41.1 hg41.2 rfl hx37 rfl) rfl ?_
 rintro _ _ _ - ⟨rfl, c48, rfl, h49⟩
 refine Nt ?_
 refine WC.region ?_
 refine Pm (.int .u64 x36) hs35_3 rfl ?_
 refine Pu (.int .u64 (IntKind.u64.wrap (x36.tdiv (256 : Int)))) (PO.quo rfl rfl (by decide)) rfl ?_
 refine Pa (.int .u64 (IntKind.u64.wrap (x36.tdiv (256 : Int)))) rfl rfl ?_
 refine WL.nil ?_
 refine WQ.blockN ?_
 refine WQ.thenC ?_
 refine WC.region ?_
 refine Pm (.int .i64 x38) hs35_6 rfl ?_
 refine Pu (.int .i64 (IntKind.i64.wrap (x38 - (1 : Int)))) (PO.sub rfl rfl) rfl ?_
 refine Pa (.int .i64 (IntKind.i64.wrap (x38 - (1 : Int)))) rfl rfl ?_
 refine WL.nil ?_
 refine WQ.again (IntKind.u64.wrap (x36.tdiv (256 : Int)), x37.set (x38).toNat (IntKind.u8.wrap (x36.tmod (256 : Int))), IntKind.i64.wrap (x38 - (1 : Int))) (Option.some.inj h).symm ?_
 exact ⟨vx37, c48, hle35, rfl, rfl, hs35_4, hs35_5, rfl, h49⟩
 have h := ite_f hb40 h
 refine WC.exit ?_
 refine WQ.thenE ?_
 refine WQ.leaveE x37 (Option.some.inj h).symm (fun heq35 => ?_)
 subst heq35
 have h := hK35
 refine WQ.blockH ?_
 obtain rfl := Option.some.inj h
 refine WQ.thenJ ?_
 exact ⟨vx37, cx37, hle35, rfl, hs35_4, hs35_5, hx37⟩
 rintro ρ34 M34 H34 ⟨vx33, cx33, hle34, rfl, hs34_4, hs34_5, hx33⟩
 refine Sr ?_
 refine Pa (.int .u8 0) rfl rfl ?_
 refine Nt ?_
 obtain ⟨x50, hj51, h⟩ := bnd h
 refine WC.joinF (fun (x50 : Int) ρ' M' H' => M34.le M' ∧ cx33 :: F = H' ∧ ρ' 5 = vx33 ∧ ρ' 7 = (.int .u8 x50)) x50 ?_ ?_
 have h351 := h
 have h := hj51
 refine Sr ?_
 refine Pa (.int .i64 1) rfl rfl ?_
 refine Nt ?_
 refine WC.block ?_
 obtain ⟨e52, he52, hK52⟩ := bnd h
 clear h
 refine WC.loop he52 (fun (p_ : (Int × Int)) ρ' M' H' => match p_ with | (x53, x54) => M34.le M' ∧ cx33 :: F = H' ∧ ρ' 4 = (.int .i64 r24) ∧ ρ' 5 = vx33 ∧ ρ' 7 = (.int .u8 x53) ∧ ρ' 8 = (.int .i64 x54)) ?_ ?_
 exact ⟨(IM.le.refl _), rfl, hs34_4, hs34_5, rfl, rfl⟩
 rintro ⟨x53, x54⟩ o52 ρ52 M52 H52 h ⟨hle52, rfl, hs52_4, hs52_5, hs52_7, hs52_8⟩
 unfold f_ref02_Num_l1 at h
 have hx33 := hx33.mono hle52
 refine WC.seq ?_
 refine Sr ?_
 refine Pm (.int .i64 x54) hs52_8 rfl ?_
 refine Pm (.int .i64 r24) hs52_4 rfl ?_
 refine Pu (.bool (decide (x54 < r24))) (PO.lss rfl rfl) rfl ?_
 refine Nt ?_
 refine WC.cond (b := decide (x54 < r24)) rfl (fun hb56 => ?_) (fun hb56 => ?_)
 have h := ite_t hb56 h
 refine WC.skip ?_
 refine WQ.thenC ?_
 refine WC.seq ?_
 refine WC.block ?_
 refine WC.region ?_
 refine Pm (.int .u8 x53) hs52_7 rfl ?_
 refine Pu (.int .u8 (IntKind.u8.wrap (x53 + (64 : Int)))) (PO.add rfl rfl) rfl ?_
 refine Pa (.int .u8 (IntKind.u8.wrap (x53 + (64 : Int)))) rfl rfl ?_
 refine WL.nil ?_
 refine WQ.blockN ?_
 refine WQ.thenC ?_
 refine WC.region ?_
 refine Pm (.int .i64 x54) hs52_8 rfl ?_
 refine Pu (.int .i64 (IntKind.i64.wrap (x54 * (2 : Int)))) (PO.mul rfl rfl) rfl ?_
 refine Pa (.int .i64 (IntKind.i64.wrap (x54 * (2 : Int)))) rfl rfl ?_
 refine WL.nil ?_
 refine WQ.again (IntKind.u8.wrap (x53 + (64 : Int)), IntKind.i64.wrap (x54 * (2 : Int))) (Option.some.inj h).symm ?_
 exact ⟨hle52, rfl, hs52_4, hs52_5, rfl, rfl⟩
 have h := ite_f hb56 h
 refine WC.exit ?_
 refine WQ.thenE ?_
 refine WQ.leaveE x53 (Option.some.inj h).symm (fun heq52 => ?_)
 subst heq52
 have h := hK52
 refine WQ.blockH ?_
 obtain rfl := Option.some.inj h
 refine WQ.thenJ ?_
 exact ⟨hle52, rfl, hs52_5, hs52_7⟩
 rintro ρ51 M51 H51 ⟨hle51, rfl, hs51_5, hs51_7⟩
 have hx33 := hx33.mono hle51
 refine Sr ?_
 refine Pm vx33 hs51_5 rfl ?_
 refine Pm vx33 hs51_5 rfl ?_
 obtain ⟨hg57, h⟩ := grd_i h
 obtain ⟨p58, cs59, hat60, hrc61, hhas62⟩ := hx33.at hg57.1 hg57.2
 obtain rfl := hrc61
 refine Pu (.pointer (some p58)) (PO.indexAddr (n := x33.length) Tryd.underlying26 sz5 rfl rfl hg57.1 hg57.2 hat60) rfl ?_
 refine Pu (.int .u8 (rd x33 (0 : Int))) (PO.loadC 0 pl5 rfl rfl (chunkHas0 hhas62)) rfl ?_
 refine Pm (.int .u8 x50) hs51_7 rfl ?_
 refine Pu (.int .u8 (IntKind.u8.wrap ((rd x33 (0 : Int)) + x50))) (PO.add rfl rfl) rfl ?_
 obtain ⟨hg64, h⟩ := grd_i h
 obtain ⟨p65, cs66, hat67, hrc68, hhas69⟩ := hx33.at hg64.1 hg64.2
 obtain rfl := hrc68
 refine Pu (.pointer (some p65)) (PO.indexAddr (n := x33.length) Tryd.underlying26 sz5 rfl rfl hg64.1 hg64.2 hat67) rfl ?_
 refine WL.eff (EO.storeOwn (dd := (Kd.int .u8)) (a := (IntKind.u8.wrap ((rd x33 (0 : Int)) + x50))) sz5 rfl hat67 rfl hg64.1 hg64.2 rfl hx33 rfl) rfl ?_
 rintro _ _ _ - ⟨rfl, c71, rfl, h72⟩
 refine Ns ?_
 refine Pm vx33 hs51_5 rfl ?_
 refine Pa vx33 rfl rfl ?_
 refine Nt ?_
 refine WC.ret ?_
 exact WQ.returnsF h [c71] rfl (results1 rfl rfl) (((hle22.trans hle27).trans hle34).trans hle51) ⟨vx33, c71, rfl, rfl, h72⟩

noncomputable def f_ref02_Int (a0 : Int) : Option (List Int) :=
  (if (decide (a0 < (0 : Int))) = true then (some [(0 : Int)]) else ((f_ref02_Num (IntKind.u64.wrap a0)).bind fun (r25 : (List Int)) => (some r25)))
def f_ref02_Int_post (a0 : Int) : (List Int) → Value → IM → HL → Prop :=
  fun (r0 : (List Int)) (v : Value) (M' : IM) (H' : HL) => ∃ vz0 cz0, vz0 = v ∧ H' = [cz0] ∧ OwnS (Kd.int .u8) M' vz0 r0 cz0
set_option maxHeartbeats 8000000 in
set_option maxRecDepth 100000 in
theorem f_ref02_Int_ok (a0 : Int) (M : IM) (res : (List Int)) (h : f_ref02_Int a0 = some res) :
    Tri Tryd.prog 74 #[(.int .i64 a0)] M [] (f_ref02_Int_post a0 res) := by
 unfold f_ref02_Int at h
 refine Tri.enter (fn := Tryd.f74) Tryd.func74 rfl (Nat.le_of_ble_eq_true rfl) ?_
 intro F ρ hρ
 refine Sr ?_
 refine Pa (.slice none 0 0) rfl rfl ?_
 refine Nt ?_
 refine WC.seq ?_
 refine Sr ?_
 refine Pm (.int .i64 a0) (hρ 0) rfl ?_
 refine Pu (.bool (decide (a0 < (0 : Int)))) (PO.lss rfl rfl) rfl ?_
 refine Nt ?_
 refine WC.cond (b := decide (a0 < (0 : Int))) rfl (fun hb21 => ?_) (fun hb21 => ?_)
 have h := ite_t hb21 h
 refine Sr ?_
 refine WL.eff (EO.buildSliceL (cl := [(.int .u8 0)]) Tryd.underlying26 iz5 rfl (Parts.cons (congrArg Value.cells (show ev _ _ = (.int .u8 0) from rfl)) Parts.nil) rfl) rfl ?_
 rintro _ _ _ - ⟨rfl, g22, rfl, rfl⟩
 have h24 : OwnS (Kd.int .u8) M (.slice (some ⟨g22, 0, none⟩) 1 1) [(0 : Int)] [(g22, .cells #[(.int .u8 0)] 5 (0, 0))] := OwnS.rows (css := [[(.int .u8 0)]]) (Rows.cons rfl Rows.nil) rfl rfl
 refine Pa (.slice (some ⟨g22, 0, none⟩) 1 1) rfl rfl ?_
 refine Nt ?_
 refine WC.ret ?_
 refine WQ.thenR ?_
 exact WQ.returnsF h [[(g22, .cells #[(.int .u8 0)] 5 (0, 0))]] rfl (results1 rfl rfl) (IM.le.refl _) ⟨(.slice (some ⟨g22, 0, none⟩) 1 1), [(g22, .cells #[(.int .u8 0)] 5 (0, 0))], rfl, rfl, h24⟩
 have h := ite_f hb21 h
 refine WC.skip ?_
 refine WQ.thenC ?_
 refine Sr ?_
 refine Pm (.int .i64 a0) (hρ 0) rfl ?_
 refine Pu (.int .u64 (IntKind.u64.wrap a0)) (PO.conv us3 Tryd.underlying42 rfl) rfl ?_
 obtain ⟨r25, hr26, h⟩ := bnd h
 refine WL.eff (EO.call0 co103 (f_ref02_Num_ok (IntKind.u64.wrap a0) _ r25 hr26) (args1 rfl)) rfl ?_
 rintro _ M27 _ hle28 ⟨_, ⟨vq29, cq29, rfl, rfl, hq29⟩, rfl⟩
 refine WL.a1 ?_
 refine Pa vq29 rfl rfl ?_
 refine Nt ?_
 refine WC.ret ?_
 exact WQ.returnsF h [cq29] rfl (results1 rfl rfl) hle28 ⟨vq29, cq29, rfl, rfl, hq29⟩

noncomputable def f_ref02_Text (a0 : (List Int)) : Option (List Int) :=
  ((f_ref02_Int (a0.length : Int)).bind fun (r21 : (List Int)) => (grd (r21.length + a0.length ≤ 274877906944) (some (r21 ++ a0))))
def f_ref02_Text_post (a0 : (List Int)) (v0 : Value) : (List Int) → Value → IM → HL → Prop :=
  fun (r0 : (List Int)) (v : Value) (M' : IM) (H' : HL) => ∃ vz0 cz0, vz0 = v ∧ H' = [cz0] ∧ OwnS (Kd.int .u8) M' vz0 r0 cz0
set_option maxHeartbeats 8000000 in
set_option maxRecDepth 100000 in
theorem f_ref02_Text_ok (a0 : (List Int)) (M : IM) (v0 : Value) (h0 : RS (Kd.int .u8) M v0 a0) (res : (List Int)) (h : f_ref02_Text a0 = some res) :
    Tri Tryd.prog 47 #[v0] M [] (f_ref02_Text_post a0 v0 res) := by
 unfold f_ref02_Text at h
 refine Tri.enter (fn := Tryd.f47) Tryd.func47 rfl (Nat.le_of_ble_eq_true rfl) ?_
 intro F ρ hρ
 refine Sr ?_
 refine Pa (.slice none 0 0) rfl rfl ?_
 refine Ns ?_
 refine Pm v0 (hρ 0) rfl ?_
 refine Pu (.int .i64 (a0.length : Int)) (PO.lenS Tryd.underlying26 rfl h0.len) rfl ?_
 obtain ⟨r21, hr22, h⟩ := bnd h
 refine WL.eff (EO.call0 co74 (f_ref02_Int_ok (a0.length : Int) _ r21 hr22) (args1 rfl)) rfl ?_
 rintro _ M23 _ hle24 ⟨_, ⟨vq25, cq25, rfl, rfl, hq25⟩, rfl⟩
 have h0 := h0.mono hle24
 refine WL.a1 ?_
 refine Pm v0 (hρ 0) rfl ?_
 obtain ⟨hg29, h⟩ := grd_i h
 refine WL.eff (EO.append (dd := (Kd.int .u8)) (xs := r21) (ys := a0) Tryd.underlying26 Tryd.underlying26 in5 rfl (appB (by decide) hg29) (by decide) rfl rfl hq25 (h0.src _)) rfl ?_
 rintro v28 _ _ - ⟨rfl, c26, rfl, h27⟩
 refine Pa v28 rfl rfl ?_
 refine Nt ?_
 refine WC.ret ?_
 exact WQ.returnsF h [c26] rfl (results1 rfl rfl) hle24 ⟨v28, c26, rfl, rfl, h27⟩

noncomputable def f_ref22_str (a0 : ByteArray) (a1 : Bool) : Option (List Int) :=
  (if (!a1) = true then (some []) else ((f_ref02_Text (bytesOf a0)).bind fun (r26 : (List Int)) => (some r26)))
def f_ref22_str_post (a0 : ByteArray) (a1 : Bool) : (List Int) → Value → IM → HL → Prop :=
  fun (r0 : (List Int)) (v : Value) (M' : IM) (H' : HL) => ∃ vz0 cz0, vz0 = v ∧ H' = [cz0] ∧ OwnS (Kd.int .u8) M' vz0 r0 cz0
set_option maxHeartbeats 8000000 in
set_option maxRecDepth 100000 in
theorem f_ref22_str_ok (a0 : ByteArray) (a1 : Bool) (M : IM) (res : (List Int)) (h : f_ref22_str a0 a1 = some res) :
    Tri Tryd.prog 75 #[(.string a0), (.bool a1)] M [] (f_ref22_str_post a0 a1 res) := by
 unfold f_ref22_str at h
 refine Tri.enter (fn := Tryd.f75) Tryd.func75 rfl (Nat.le_of_ble_eq_true rfl) ?_
 intro F ρ hρ
 refine Sr ?_
 refine Pa (.slice none 0 0) rfl rfl ?_
 refine Nt ?_
 refine WC.seq ?_
 refine Sr ?_
 refine Pm (.bool a1) (hρ 1) rfl ?_
 refine Pu (.bool (!a1)) (PO.not rfl) rfl ?_
 refine Nt ?_
 refine WC.cond (b := !a1) rfl (fun hb21 => ?_) (fun hb21 => ?_)
 have h := ite_t hb21 h
 refine Sr ?_
 refine Pa (.slice none 0 0) rfl rfl ?_
 refine Nt ?_
 refine WC.ret ?_
 refine WQ.thenR ?_
 refine WQ.e0 ?_
 exact WQ.returnsF h [[]] rfl (results1 rfl rfl) (IM.le.refl _) ⟨(.slice none 0 0), [], rfl, rfl, (OwnS.nil _ _)⟩
 have h := ite_f hb21 h
 refine WC.skip ?_
 refine WQ.thenC ?_
 refine Sr ?_
 refine Pm (.string a0) (hρ 0) rfl ?_
 refine WL.eff (EO.s2b Tryd.underlying9 Tryd.underlying26 Tryd.underlying5 rfl) rfl ?_
 rintro v25 _ _ - ⟨rfl, c23, rfl, h24⟩
 obtain ⟨r26, hr27, h⟩ := bnd h
 refine WL.eff (EO.call1 co47 (Tri.lend fun w0_ H0_ hs0_ => (f_ref02_Text_ok (bytesOf a0) _ _ (h24.rs hs0_) r26 hr27)) (args1 rfl)) rfl ?_
 rintro _ _ _ hle29 ⟨_, ⟨Ml31, Hl32, hll33, rfl, rfl, ⟨vq30, cq30, rfl, rfl, hq30⟩⟩, rfl⟩
 have h24 := h24.mono hle29
 have hq30 : OwnS (Kd.int .u8) (Ml31.minus c23) vq30 r26 cq30 := hq30.any (Kd.int_flat _)
 refine WL.a2 ?_
 refine Pa vq30 rfl rfl ?_
 refine Nt ?_
 refine WC.ret ?_
 refine WQ.drop ?_
 exact WQ.returnsF h [cq30] rfl (results1 rfl rfl) hle29 ⟨vq30, cq30, rfl, rfl, hq30⟩

noncomputable def f_ref02_Flag (a0 : Bool) : Option (List Int) :=
  (if a0 = true then (some [(1 : Int)]) else (some [(0 : Int)]))
def f_ref02_Flag_post (a0 : Bool) : (List Int) → Value → IM → HL → Prop :=
  fun (r0 : (List Int)) (v : Value) (M' : IM) (H' : HL) => ∃ vz0 cz0, vz0 = v ∧ H' = [cz0] ∧ OwnS (Kd.int .u8) M' vz0 r0 cz0
set_option maxHeartbeats 8000000 in
set_option maxRecDepth 100000 in
theorem f_ref02_Flag_ok (a0 : Bool) (M : IM) (res : (List Int)) (h : f_ref02_Flag a0 = some res) :
    Tri Tryd.prog 76 #[(.bool a0)] M [] (f_ref02_Flag_post a0 res) := by
 unfold f_ref02_Flag at h
 refine Tri.enter (fn := Tryd.f76) Tryd.func76 rfl (Nat.le_of_ble_eq_true rfl) ?_
 intro F ρ hρ
 refine Sr ?_
 refine Pa (.slice none 0 0) rfl rfl ?_
 refine Nt ?_
 refine WC.seq ?_
 refine Sr ?_
 refine Pm (.bool a0) (hρ 0) rfl ?_
 refine Nt ?_
 refine WC.cond (b := a0) rfl (fun hb21 => ?_) (fun hb21 => ?_)
 have h := ite_t hb21 h
 refine Sr ?_
 refine WL.eff (EO.buildSliceL (cl := [(.int .u8 1)]) Tryd.underlying26 iz5 rfl (Parts.cons (congrArg Value.cells (show ev _ _ = (.int .u8 1) from rfl)) Parts.nil) rfl) rfl ?_
 rintro _ _ _ - ⟨rfl, g22, rfl, rfl⟩
 have h24 : OwnS (Kd.int .u8) M (.slice (some ⟨g22, 0, none⟩) 1 1) [(1 : Int)] [(g22, .cells #[(.int .u8 1)] 5 (0, 0))] := OwnS.rows (css := [[(.int .u8 1)]]) (Rows.cons rfl Rows.nil) rfl rfl
 refine Pa (.slice (some ⟨g22, 0, none⟩) 1 1) rfl rfl ?_
 refine Nt ?_
 refine WC.ret ?_
 refine WQ.thenR ?_
 exact WQ.returnsF h [[(g22, .cells #[(.int .u8 1)] 5 (0, 0))]] rfl (results1 rfl rfl) (IM.le.refl _) ⟨(.slice (some ⟨g22, 0, none⟩) 1 1), [(g22, .cells #[(.int .u8 1)] 5 (0, 0))], rfl, rfl, h24⟩
 have h := ite_f hb21 h
 refine WC.skip ?_
 refine WQ.thenC ?_
 refine Sr ?_
 refine WL.eff (EO.buildSliceL (cl := [(.int .u8 0)]) Tryd.underlying26 iz5 rfl (Parts.cons (congrArg Value.cells (show ev _ _ = (.int .u8 0) from rfl)) Parts.nil) rfl) rfl ?_
 rintro _ _ _ - ⟨rfl, g25, rfl, rfl⟩
 have h27 : OwnS (Kd.int .u8) M (.slice (some ⟨g25, 0, none⟩) 1 1) [(0 : Int)] [(g25, .cells #[(.int .u8 0)] 5 (0, 0))] := OwnS.rows (css := [[(.int .u8 0)]]) (Rows.cons rfl Rows.nil) rfl rfl
 refine Pa (.slice (some ⟨g25, 0, none⟩) 1 1) rfl rfl ?_
 refine Nt ?_
 refine WC.ret ?_
 exact WQ.returnsF h [[(g25, .cells #[(.int .u8 0)] 5 (0, 0))]] rfl (results1 rfl rfl) (IM.le.refl _) ⟨(.slice (some ⟨g25, 0, none⟩) 1 1), [(g25, .cells #[(.int .u8 0)] 5 (0, 0))], rfl, rfl, h27⟩

noncomputable def f_ref22_one (a0 : Int) (a1 : Bool) : Option (List Int) :=
  (if (!a1) = true then (some []) else ((f_ref02_Int a0).bind fun (r23 : (List Int)) => (some r23)))
def f_ref22_one_post (a0 : Int) (a1 : Bool) : (List Int) → Value → IM → HL → Prop :=
  fun (r0 : (List Int)) (v : Value) (M' : IM) (H' : HL) => ∃ vz0 cz0, vz0 = v ∧ H' = [cz0] ∧ OwnS (Kd.int .u8) M' vz0 r0 cz0
set_option maxHeartbeats 8000000 in
set_option maxRecDepth 100000 in
theorem f_ref22_one_ok (a0 : Int) (a1 : Bool) (M : IM) (res : (List Int)) (h : f_ref22_one a0 a1 = some res) :
    Tri Tryd.prog 77 #[(.int .i64 a0), (.bool a1)] M [] (f_ref22_one_post a0 a1 res) := by
 unfold f_ref22_one at h
 refine Tri.enter (fn := Tryd.f77) Tryd.func77 rfl (Nat.le_of_ble_eq_true rfl) ?_
 intro F ρ hρ
 refine Sr ?_
 refine Pa (.slice none 0 0) rfl rfl ?_
 refine Nt ?_
 refine WC.seq ?_
 refine Sr ?_
 refine Pm (.bool a1) (hρ 1) rfl ?_
 refine Pu (.bool (!a1)) (PO.not rfl) rfl ?_
 refine Nt ?_
 refine WC.cond (b := !a1) rfl (fun hb21 => ?_) (fun hb21 => ?_)
 have h := ite_t hb21 h
 refine Sr ?_
 refine Pa (.slice none 0 0) rfl rfl ?_
 refine Nt ?_
 refine WC.ret ?_
 refine WQ.thenR ?_
 refine WQ.e0 ?_
 exact WQ.returnsF h [[]] rfl (results1 rfl rfl) (IM.le.refl _) ⟨(.slice none 0 0), [], rfl, rfl, (OwnS.nil _ _)⟩
 have h := ite_f hb21 h
 refine WC.skip ?_
 refine WQ.thenC ?_
 refine Sr ?_
 refine Pm (.int .i64 a0) (hρ 0) rfl ?_
 obtain ⟨r23, hr24, h⟩ := bnd h
 refine WL.eff (EO.call0 co74 (f_ref02_Int_ok a0 _ r23 hr24) (args1 rfl)) rfl ?_
 rintro _ M25 _ hle26 ⟨_, ⟨vq27, cq27, rfl, rfl, hq27⟩, rfl⟩
 refine WL.a1 ?_
 refine Pa vq27 rfl rfl ?_
 refine Nt ?_
 refine WC.ret ?_
 exact WQ.returnsF h [cq27] rfl (results1 rfl rfl) hle26 ⟨vq27, cq27, rfl, rfl, hq27⟩

noncomputable def f_ref02_Row_l0 (a0 : (List Int)) (s_ : ((List Int) × Int)) : Option (((List Int) × Int) ⊕ (List Int)) :=
  match s_ with
  | (x29, x30) =>
    (if (decide (x30 < (a0.length : Int))) = true then (grd (0 ≤ x30 ∧ x30 < a0.length) ((f_ref02_Int (rd a0 x30)).bind fun (r40 : (List Int)) => (grd (x29.length + r40.length ≤ 274877906944) (some (Sum.inl (x29 ++ r40, IntKind.i64.wrap (x30 + (1 : Int)))))))) else (some (Sum.inr x29)))
noncomputable def f_ref02_Row (a0 : (List Int)) : Option (List Int) :=
  ((f_ref02_Int (a0.length : Int)).bind fun (r21 : (List Int)) => ((((iter (f_ref02_Row_l0 a0) (r21, (0 : Int))).bind (fun (x31 : (List Int)) => (some x31))) : Option (List Int)).bind fun (x26 : (List Int)) => (some x26)))
def f_ref02_Row_post (a0 : (List Int)) (v0 : Value) : (List Int) → Value → IM → HL → Prop :=
  fun (r0 : (List Int)) (v : Value) (M' : IM) (H' : HL) => ∃ vz0 cz0, vz0 = v ∧ H' = [cz0] ∧ OwnS (Kd.int .u8) M' vz0 r0 cz0
set_option maxHeartbeats 8000000 in
set_option maxRecDepth 100000 in
theorem f_ref02_Row_ok (a0 : (List Int)) (M : IM) (v0 : Value) (h0 : RS (Kd.int .i64) M v0 a0) (res : (List Int)) (h : f_ref02_Row a0 = some res) :
    Tri Tryd.prog 78 #[v0] M [] (f_ref02_Row_post a0 v0 res) := by
 unfold f_ref02_Row at h
 refine Tri.enter (fn := Tryd.f78) Tryd.func78 rfl (Nat.le_of_ble_eq_true rfl) ?_
 intro F ρ hρ
 refine Sr ?_
 refine Pa (.slice none 0 0) rfl rfl ?_
 refine Ns ?_
 refine Pm v0 (hρ 0) rfl ?_
 refine Pu (.int .i64 (a0.length : Int)) (PO.lenS Tryd.underlying64 rfl h0.len) rfl ?_
 obtain ⟨r21, hr22, h⟩ := bnd h
 refine WL.eff (EO.call0 co74 (f_ref02_Int_ok (a0.length : Int) _ r21 hr22) (args1 rfl)) rfl ?_
 rintro _ M23 _ hle24 ⟨_, ⟨vq25, cq25, rfl, rfl, hq25⟩, rfl⟩
 have h0 := h0.mono hle24
 refine WL.a1 ?_
 refine Pa vq25 rfl rfl ?_
 refine Nt ?_
 obtain ⟨x26, hj27, h⟩ := bnd h
 refine WC.joinF (fun (x26 : (List Int)) ρ' M' H' => ∃ vx26 cx26, M23.le M' ∧ cx26 :: F = H' ∧ ρ' 3 = vx26 ∧ OwnS (Kd.int .u8) M' vx26 x26 cx26) x26 ?_ ?_
 have h327 := h
 have h := hj27
 refine Sr ?_
 refine Pa (.int .i64 0) rfl rfl ?_
 refine Nt ?_
 refine WC.block ?_
 obtain ⟨e28, he28, hK28⟩ := bnd h
 clear h
 refine WC.loop he28 (fun (p_ : ((List Int) × Int)) ρ' M' H' => match p_ with | (x29, x30) => ∃ vx29 cx29, M23.le M' ∧ cx29 :: F = H' ∧ ρ' 0 = v0 ∧ ρ' 3 = vx29 ∧ ρ' 4 = (.int .i64 x30) ∧ OwnS (Kd.int .u8) M' vx29 x29 cx29) ?_ ?_
 exact ⟨vq25, cq25, (IM.le.refl _), rfl, (hρ 0), rfl, rfl, hq25⟩
 rintro ⟨x29, x30⟩ o28 ρ28 M28 H28 h ⟨vx29, cx29, hle28, rfl, hs28_0, hs28_3, hs28_4, hx29⟩
 unfold f_ref02_Row_l0 at h
 have h0 := h0.mono hle28
 refine WC.seq ?_
 refine Sr ?_
 refine Pm (.int .i64 x30) hs28_4 rfl ?_
 refine Pm v0 hs28_0 rfl ?_
 refine Pu (.int .i64 (a0.length : Int)) (PO.lenS Tryd.underlying64 rfl h0.len) rfl ?_
 refine Pu (.bool (decide (x30 < (a0.length : Int)))) (PO.lss rfl rfl) rfl ?_
 refine Nt ?_
 refine WC.cond (b := decide (x30 < (a0.length : Int))) rfl (fun hb32 => ?_) (fun hb32 => ?_)
 have h := ite_t hb32 h
 refine WC.skip ?_
 refine WQ.thenC ?_
 refine WC.seq ?_
 refine WC.block ?_
 refine WC.region ?_
 refine Pm vx29 hs28_3 rfl ?_
 refine Pm v0 hs28_0 rfl ?_
 refine Pm (.int .i64 x30) hs28_4 rfl ?_
 obtain ⟨hg33, h⟩ := grd_i h
 obtain ⟨p34, cs35, hat36, hrc37, hhas38⟩ := h0.at hg33.1 hg33.2 (by decide)
 obtain rfl := hrc37
 refine Pu (.pointer (some p34)) (PO.indexAddr (n := a0.length) Tryd.underlying64 sz3 rfl rfl hg33.1 hg33.2 hat36) rfl ?_
 refine Pu (.int .i64 (rd a0 x30)) (PO.loadM pl3 rfl (IM.has0 hhas38)) rfl ?_
 obtain ⟨r40, hr41, h⟩ := bnd h
 refine WL.eff (EO.call0 co74 (f_ref02_Int_ok (rd a0 x30) _ r40 hr41) (args1 rfl)) rfl ?_
 rintro _ M42 _ hle43 ⟨_, ⟨vq44, cq44, rfl, rfl, hq44⟩, rfl⟩
 have h0 := h0.mono hle43
 have hx29 := hx29.mono hle43
 have hhas38 := hhas38.mono hle43
 refine WL.a1 ?_
 obtain ⟨hg48, h⟩ := grd_i h
 refine WL.f1 ?_
 refine WL.eff (EO.append (dd := (Kd.int .u8)) (xs := x29) (ys := r40) Tryd.underlying26 Tryd.underlying26 in5 rfl (appB (by decide) hg48) (by decide) rfl rfl hx29 (hq44.src 1 rfl)) rfl ?_
 rintro v47 _ _ - ⟨rfl, c45, rfl, h46⟩
 refine Pa v47 rfl rfl ?_
 refine WL.nil ?_
 refine WQ.blockN ?_
 refine WQ.thenC ?_
 refine WC.region ?_
 refine Pm (.int .i64 x30) hs28_4 rfl ?_
 refine Pu (.int .i64 (IntKind.i64.wrap (x30 + (1 : Int)))) (PO.add rfl rfl) rfl ?_
 refine Pa (.int .i64 (IntKind.i64.wrap (x30 + (1 : Int)))) rfl rfl ?_
 refine WL.nil ?_
 refine WQ.f1 ?_
 refine WQ.drop ?_
 refine WQ.again (x29 ++ r40, IntKind.i64.wrap (x30 + (1 : Int))) (Option.some.inj h).symm ?_
 exact ⟨v47, c45, (hle28.trans hle43), rfl, hs28_0, rfl, rfl, h46⟩
 have h := ite_f hb32 h
 refine WC.exit ?_
 refine WQ.thenE ?_
 refine WQ.leaveE x29 (Option.some.inj h).symm (fun heq28 => ?_)
 subst heq28
 have h := hK28
 refine WQ.blockH ?_
 obtain rfl := Option.some.inj h
 refine WQ.thenJ ?_
 exact ⟨vx29, cx29, hle28, rfl, hs28_3, hx29⟩
 rintro ρ27 M27 H27 ⟨vx26, cx26, hle27, rfl, hs27_3, hx26⟩
 refine Sr ?_
 refine Pm vx26 hs27_3 rfl ?_
 refine Pa vx26 rfl rfl ?_
 refine Nt ?_
 refine WC.ret ?_
 exact WQ.returnsF h [cx26] rfl (results1 rfl rfl) (hle24.trans hle27) ⟨vx26, cx26, rfl, rfl, hx26⟩


end Go.Proofs.YtjgnbbakamellaaDoor.G
