/- Go functions: what they come to, and that they do. Printed by a program of the session (gen). -/
import Derived.Test.YtjiffdgidodebaaDoorFF
import Derived.Test.YtjiffdgidodebaaDoorF3
import Derived.Test.YtjiffdgidodebaaDoorKShar
set_option linter.unusedVariables false
set_option linter.unusedSimpArgs false
set_option maxHeartbeats 8000000
set_option maxRecDepth 100000
namespace Go.Proofs.YtjiffdgidodebaaDoor.G
open Go Go.KK

noncomputable def f_ref02_size (a0 : Int) : Option Int :=
  (if (decide (a0 < (64 : Int))) = true then (some (1 : Int)) else (if (decide (a0 < (16384 : Int))) = true then (some (2 : Int)) else (if (decide (a0 < (1073741824 : Int))) = true then (some (4 : Int)) else (some (8 : Int)))))
def f_ref02_size_post (a0 : Int) : Int → Value → IM → HL → Prop :=
  fun (r0 : Int) (v : Value) (M' : IM) (H' : HL) => (.int .i64 r0) = v ∧ H' = []
theorem f_ref02_size_ok (a0 : Int) (M : IM) (res : Int) (h : f_ref02_size a0 = some res) :
    Tri Tryd.prog 97 #[(.int .u64 a0)] M [] (f_ref02_size_post a0 res) := by
 unfold f_ref02_size at h
 refine Tri.enter (fn := Tryd.f97) Tryd.func97 rfl (Nat.le_of_ble_eq_true rfl) ?_
 intro F ρ hρ
 refine Sr ?_
 refine Pa (.int .i64 0) rfl rfl ?_
 refine Nt ?_
 refine WC.seq ?_
 refine Sr ?_
 refine Pm (.int .u64 a0) (hρ 0) rfl ?_
 refine Pu (.bool (decide (a0 < 64))) (PO.lss rfl rfl) rfl ?_
 refine Nt ?_
 refine WC.cond (b := decide (a0 < 64)) rfl (fun hb21 => ?_) (fun hb21 => ?_)
 have h := ite_t hb21 h
 refine Sr ?_
 refine Pa (.int .i64 1) rfl rfl ?_
 refine Nt ?_
 refine WC.ret ?_
 refine WQ.thenR ?_
 exact WQ.returnsF h [] rfl (results1 rfl rfl) (IM.le.refl _) ⟨rfl, rfl⟩
 have h := ite_f hb21 h
 refine WC.skip ?_
 refine WQ.thenC ?_
 refine WC.seq ?_
 refine Sr ?_
 refine Pm (.int .u64 a0) (hρ 0) rfl ?_
 refine Pu (.bool (decide (a0 < 16384))) (PO.lss rfl rfl) rfl ?_
 refine Nt ?_
 refine WC.cond (b := decide (a0 < 16384)) rfl (fun hb22 => ?_) (fun hb22 => ?_)
 have h := ite_t hb22 h
 refine Sr ?_
 refine Pa (.int .i64 2) rfl rfl ?_
 refine Nt ?_
 refine WC.ret ?_
 refine WQ.thenR ?_
 exact WQ.returnsF h [] rfl (results1 rfl rfl) (IM.le.refl _) ⟨rfl, rfl⟩
 have h := ite_f hb22 h
 refine WC.skip ?_
 refine WQ.thenC ?_
 refine WC.seq ?_
 refine Sr ?_
 refine Pm (.int .u64 a0) (hρ 0) rfl ?_
 refine Pu (.bool (decide (a0 < 1073741824))) (PO.lss rfl rfl) rfl ?_
 refine Nt ?_
 refine WC.cond (b := decide (a0 < 1073741824)) rfl (fun hb23 => ?_) (fun hb23 => ?_)
 have h := ite_t hb23 h
 refine Sr ?_
 refine Pa (.int .i64 4) rfl rfl ?_
 refine Nt ?_
 refine WC.ret ?_
 refine WQ.thenR ?_
 exact WQ.returnsF h [] rfl (results1 rfl rfl) (IM.le.refl _) ⟨rfl, rfl⟩
 have h := ite_f hb23 h
 refine WC.skip ?_
 refine WQ.thenC ?_
 refine Sr ?_
 refine Pa (.int .i64 8) rfl rfl ?_
 refine Nt ?_
 refine WC.ret ?_
 exact WQ.returnsF h [] rfl (results1 rfl rfl) (IM.le.refl _) ⟨rfl, rfl⟩

noncomputable def f_ref02_Num_l0 (s_ : (Int × (List Int) × Int)) : Option ((Int × (List Int) × Int) ⊕ (List Int)) :=
  match s_ with
  | (x36, x37, x38) =>
    (if (decide ((0 : Int) ≤ x38)) = true then (grd (0 ≤ x38 ∧ x38 < x37.length) (some (Sum.inl (IntKind.u64.wrap (x36.tdiv (256 : Int)), x37.set (x38).toNat (IntKind.u8.wrap (x36.tmod (256 : Int))), IntKind.i64.wrap (x38 - (1 : Int)))))) else (some (Sum.inr x37)))
noncomputable def f_ref02_Num_l1 (r24 : Int) (s_ : (Int × Int)) : Option ((Int × Int) ⊕ Int) :=
  match s_ with
  | (x53, x54) =>
    (if (decide (x54 < r24)) = true then (some (Sum.inl (IntKind.u8.wrap (x53 + (64 : Int)), IntKind.i64.wrap (x54 * (2 : Int))))) else (some (Sum.inr x53)))
noncomputable def f_ref02_Num (a0 : Int) : Option (List Int) :=
  (((if (decide ((4611686018427387903 : Int) < a0)) = true then (some (4611686018427387903 : Int)) else (some a0)) : Option Int).bind fun (x21 : Int) => ((f_ref02_size x21).bind fun (r24 : Int) => (grd (0 ≤ r24 ∧ r24 ≤ 274877906944) ((((iter (f_ref02_Num_l0) (x21, List.replicate (r24).toNat (0 : Int), IntKind.i64.wrap (r24 - (1 : Int)))).bind (fun (x39 : (List Int)) => (some x39))) : Option (List Int)).bind fun (x33 : (List Int)) => ((((iter (f_ref02_Num_l1 r24) ((0 : Int), (1 : Int))).bind (fun (x55 : Int) => (some x55))) : Option Int).bind fun (x50 : Int) => (grd (0 ≤ (0 : Int) ∧ (0 : Int) < x33.length) (grd (0 ≤ (0 : Int) ∧ (0 : Int) < x33.length) (some (x33.set ((0 : Int)).toNat (IntKind.u8.wrap ((rd x33 (0 : Int)) + x50)))))))))))
def f_ref02_Num_post (a0 : Int) : (List Int) → Value → IM → HL → Prop :=
  fun (r0 : (List Int)) (v : Value) (M' : IM) (H' : HL) => ∃ vz0 cz0, vz0 = v ∧ H' = [cz0] ∧ OwnS (Kd.int .u8) M' vz0 r0 cz0
theorem f_ref02_Num_ok (a0 : Int) (M : IM) (res : (List Int)) (h : f_ref02_Num a0 = some res) :
    Tri Tryd.prog 93 #[(.int .u64 a0)] M [] (f_ref02_Num_post a0 res) := by
 unfold f_ref02_Num at h
 refine Tri.enter (fn := Tryd.f93) Tryd.func93 rfl (Nat.le_of_ble_eq_true rfl) ?_
 intro F ρ hρ
 refine Sr ?_
 refine Pa (.slice none 0 0) rfl rfl ?_
 refine Ns ?_
 refine Pm (.int .u64 a0) (hρ 0) rfl ?_
 refine Pa (.int .u64 a0) rfl rfl ?_
 refine Nt ?_
 obtain ⟨x21, hj22, h⟩ := bnd h
 refine WC.joinF (fun (x21 : Int) ρ' M' H' => M.le M' ∧ F = H' ∧ ρ' 3 = (.int .u64 x21)) x21 ?_ ?_
 have h322 := h
 have h := hj22
 refine Sr ?_
 refine Pm (.int .u64 a0) rfl rfl ?_
 refine Pu (.bool (decide ((4611686018427387903 : Int) < a0))) (PO.gtr rfl rfl) rfl ?_
 refine Nt ?_
 refine WC.cond (b := decide ((4611686018427387903 : Int) < a0)) rfl (fun hb23 => ?_) (fun hb23 => ?_)
 have h := ite_t hb23 h
 refine WC.region ?_
 refine Pa (.int .u64 4611686018427387903) rfl rfl ?_
 refine WL.nil ?_
 obtain rfl := Option.some.inj h
 refine WQ.thenJ ?_
 exact ⟨(IM.le.refl _), rfl, rfl⟩
 have h := ite_f hb23 h
 refine WC.skip ?_
 obtain rfl := Option.some.inj h
 refine WQ.thenJ ?_
 exact ⟨(IM.le.refl _), rfl, rfl⟩
 rintro ρ22 M22 H22 ⟨hle22, rfl, hs22_3⟩
 refine Sr ?_
 refine Pm (.int .u64 x21) hs22_3 rfl ?_
 obtain ⟨r24, hr25, h⟩ := bnd h
 refine WL.eff (EO.call0 co97 (f_ref02_size_ok x21 _ r24 hr25) (args1 rfl)) rfl ?_
 rintro _ M26 _ hle27 ⟨_, ⟨rfl, rfl⟩, rfl⟩
 refine WL.a0 ?_
 refine Pa (.int .i64 r24) rfl rfl ?_
 refine Ns ?_
 refine Pm (.int .i64 r24) rfl rfl ?_
 obtain ⟨hg32, h⟩ := grd_i h
 refine WL.eff (EO.makeSlice (dd := (Kd.int .u8)) Tryd.underlying26 in5 rfl rfl rfl rfl rfl hg32.1 (by decide) (makeB rfl hg32.1 hg32.2)) rfl ?_
 rintro v31 _ _ - ⟨rfl, c29, rfl, h30⟩
 refine Pa v31 rfl rfl ?_
 refine Nt ?_
 obtain ⟨x33, hj34, h⟩ := bnd h
 refine WC.joinF (fun (x33 : (List Int)) ρ' M' H' => ∃ vx33 cx33, M26.le M' ∧ cx33 :: F = H' ∧ ρ' 4 = (.int .i64 r24) ∧ ρ' 5 = vx33 ∧ OwnS (Kd.int .u8) M' vx33 x33 cx33) x33 ?_ ?_
 have h334 := h
 have h := hj34
 refine Sr ?_
 refine Pm (.int .i64 r24) rfl rfl ?_
 refine Pu (.int .i64 (IntKind.i64.wrap (r24 - 1))) (PO.sub rfl rfl) rfl ?_
 refine Pa (.int .i64 (IntKind.i64.wrap (r24 - 1))) rfl rfl ?_
 refine Nt ?_
 refine WC.block ?_
 obtain ⟨e35, he35, hK35⟩ := bnd h
 clear h
 refine WC.loop he35 (fun (p_ : (Int × (List Int) × Int)) ρ' M' H' => match p_ with | (x36, x37, x38) => ∃ vx37 cx37, M26.le M' ∧ cx37 :: F = H' ∧ ρ' 3 = (.int .u64 x36) ∧ ρ' 4 = (.int .i64 r24) ∧ ρ' 5 = vx37 ∧ ρ' 6 = (.int .i64 x38) ∧ OwnS (Kd.int .u8) M' vx37 x37 cx37) ?_ ?_
 exact ⟨v31, c29, (IM.le.refl _), rfl, hs22_3, rfl, rfl, rfl, h30⟩
 rintro ⟨x36, x37, x38⟩ o35 ρ35 M35 H35 h ⟨vx37, cx37, hle35, rfl, hs35_3, hs35_4, hs35_5, hs35_6, hx37⟩
 unfold f_ref02_Num_l0 at h
 refine WC.seq ?_
 refine Sr ?_
 refine Pm (.int .i64 x38) hs35_6 rfl ?_
 refine Pu (.bool (decide ((0 : Int) ≤ x38))) (PO.geq rfl rfl) rfl ?_
 refine Nt ?_
 refine WC.cond (b := decide ((0 : Int) ≤ x38)) rfl (fun hb40 => ?_) (fun hb40 => ?_)
 have h := ite_t hb40 h
 refine WC.skip ?_
 refine WQ.thenC ?_
 refine WC.seq ?_
 refine WC.block ?_
 refine Sr ?_
 refine Pm vx37 hs35_5 rfl ?_
 refine Pm (.int .i64 x38) hs35_6 rfl ?_
 refine Pm (.int .u64 x36) hs35_3 rfl ?_
 refine Pu (.int .u64 (x36.tmod (256 : Int))) (PO.rem rfl rfl (by decide)) rfl ?_
 refine Pu (.int .u8 (IntKind.u8.wrap (x36.tmod (256 : Int)))) (PO.conv us42 Tryd.underlying5 rfl) rfl ?_
 obtain ⟨hg41, h⟩ := grd_i h
 obtain ⟨p42, cs43, hat44, hrc45, hhas46⟩ := hx37.at hg41.1 hg41.2
 obtain rfl := hrc45
 refine Pu (.pointer (some p42)) (PO.indexAddr (n := x37.length) Tryd.underlying26 sz5 rfl rfl hg41.1 hg41.2 hat44) rfl ?_
 refine WL.eff (EO.storeOwn (dd := (Kd.int .u8)) (a := (IntKind.u8.wrap (x36.tmod (256 : Int)))) sz5 rfl hat44 rfl hg41.1 hg41.2 rfl hx37 rfl) rfl ?_
 rintro _ _ _ - ⟨rfl, c48, rfl, h49⟩
 refine Nt ?_
 refine WC.region ?_
 refine Pm (.int .u64 x36) hs35_3 rfl ?_
 refine Pu (.int .u64 (IntKind.u64.wrap (x36.tdiv (256 : Int)))) (PO.quo rfl rfl (by decide)) rfl ?_
 refine Pa (.int .u64 (IntKind.u64.wrap (x36.tdiv (256 : Int)))) rfl rfl ?_
 refine WL.nil ?_
 refine WQ.blockN ?_
 refine WQ.thenC ?_
 refine WC.region ?_
 refine Pm (.int .i64 x38) hs35_6 rfl ?_
 refine Pu (.int .i64 (IntKind.i64.wrap (x38 - 1))) (PO.sub rfl rfl) rfl ?_
 refine Pa (.int .i64 (IntKind.i64.wrap (x38 - 1))) rfl rfl ?_
 refine WL.nil ?_
 refine WQ.again (IntKind.u64.wrap (x36.tdiv (256 : Int)), x37.set (x38).toNat (IntKind.u8.wrap (x36.tmod (256 : Int))), IntKind.i64.wrap (x38 - 1)) (Option.some.inj h).symm ?_
 exact ⟨vx37, c48, hle35, rfl, rfl, hs35_4, hs35_5, rfl, h49⟩
 have h := ite_f hb40 h
 refine WC.exit ?_
 refine WQ.thenE ?_
 refine WQ.leaveE x37 (Option.some.inj h).symm (fun heq35 => ?_)
 subst heq35
 have h := hK35
 refine WQ.blockH ?_
 obtain rfl := Option.some.inj h
 refine WQ.thenJ ?_
 exact ⟨vx37, cx37, hle35, rfl, hs35_4, hs35_5, hx37⟩
 rintro ρ34 M34 H34 ⟨vx33, cx33, hle34, rfl, hs34_4, hs34_5, hx33⟩
 refine Sr ?_
 refine Pa (.int .u8 0) rfl rfl ?_
 refine Nt ?_
 obtain ⟨x50, hj51, h⟩ := bnd h
 refine WC.joinF (fun (x50 : Int) ρ' M' H' => M34.le M' ∧ cx33 :: F = H' ∧ ρ' 5 = vx33 ∧ ρ' 7 = (.int .u8 x50)) x50 ?_ ?_
 have h351 := h
 have h := hj51
 refine Sr ?_
 refine Pa (.int .i64 1) rfl rfl ?_
 refine Nt ?_
 refine WC.block ?_
 obtain ⟨e52, he52, hK52⟩ := bnd h
 clear h
 refine WC.loop he52 (fun (p_ : (Int × Int)) ρ' M' H' => match p_ with | (x53, x54) => M34.le M' ∧ cx33 :: F = H' ∧ ρ' 4 = (.int .i64 r24) ∧ ρ' 5 = vx33 ∧ ρ' 7 = (.int .u8 x53) ∧ ρ' 8 = (.int .i64 x54)) ?_ ?_
 exact ⟨(IM.le.refl _), rfl, hs34_4, hs34_5, rfl, rfl⟩
 rintro ⟨x53, x54⟩ o52 ρ52 M52 H52 h ⟨hle52, rfl, hs52_4, hs52_5, hs52_7, hs52_8⟩
 unfold f_ref02_Num_l1 at h
 have hx33 := hx33.mono hle52
 refine WC.seq ?_
 refine Sr ?_
 refine Pm (.int .i64 x54) hs52_8 rfl ?_
 refine Pm (.int .i64 r24) hs52_4 rfl ?_
 refine Pu (.bool (decide (x54 < r24))) (PO.lss rfl rfl) rfl ?_
 refine Nt ?_
 refine WC.cond (b := decide (x54 < r24)) rfl (fun hb56 => ?_) (fun hb56 => ?_)
 have h := ite_t hb56 h
 refine WC.skip ?_
 refine WQ.thenC ?_
 refine WC.seq ?_
 refine WC.block ?_
 refine WC.region ?_
 refine Pm (.int .u8 x53) hs52_7 rfl ?_
 refine Pu (.int .u8 (IntKind.u8.wrap (x53 + 64))) (PO.add rfl rfl) rfl ?_
 refine Pa (.int .u8 (IntKind.u8.wrap (x53 + 64))) rfl rfl ?_
 refine WL.nil ?_
 refine WQ.blockN ?_
 refine WQ.thenC ?_
 refine WC.region ?_
 refine Pm (.int .i64 x54) hs52_8 rfl ?_
 refine Pu (.int .i64 (IntKind.i64.wrap (x54 * (2 : Int)))) (PO.mul rfl rfl) rfl ?_
 refine Pa (.int .i64 (IntKind.i64.wrap (x54 * (2 : Int)))) rfl rfl ?_
 refine WL.nil ?_
 refine WQ.again (IntKind.u8.wrap (x53 + 64), IntKind.i64.wrap (x54 * (2 : Int))) (Option.some.inj h).symm ?_
 exact ⟨hle52, rfl, hs52_4, hs52_5, rfl, rfl⟩
 have h := ite_f hb56 h
 refine WC.exit ?_
 refine WQ.thenE ?_
 refine WQ.leaveE x53 (Option.some.inj h).symm (fun heq52 => ?_)
 subst heq52
 have h := hK52
 refine WQ.blockH ?_
 obtain rfl := Option.some.inj h
 refine WQ.thenJ ?_
 exact ⟨hle52, rfl, hs52_5, hs52_7⟩
 rintro ρ51 M51 H51 ⟨hle51, rfl, hs51_5, hs51_7⟩
 have hx33 := hx33.mono hle51
 refine Sr ?_
 refine Pm vx33 hs51_5 rfl ?_
 refine Pm vx33 hs51_5 rfl ?_
 obtain ⟨hg57, h⟩ := grd_i h
 obtain ⟨p58, cs59, hat60, hrc61, hhas62⟩ := hx33.at hg57.1 hg57.2
 obtain rfl := hrc61
 refine Pu (.pointer (some p58)) (PO.indexAddr (n := x33.length) Tryd.underlying26 sz5 rfl rfl hg57.1 hg57.2 hat60) rfl ?_
 refine Pu (.int .u8 (rd x33 (0 : Int))) (PO.loadC 0 pl5 rfl rfl (chunkHas0 hhas62)) rfl ?_
 refine Pm (.int .u8 x50) hs51_7 rfl ?_
 refine Pu (.int .u8 (IntKind.u8.wrap ((rd x33 (0 : Int)) + x50))) (PO.add rfl rfl) rfl ?_
 obtain ⟨hg64, h⟩ := grd_i h
 obtain ⟨p65, cs66, hat67, hrc68, hhas69⟩ := hx33.at hg64.1 hg64.2
 obtain rfl := hrc68
 refine Pu (.pointer (some p65)) (PO.indexAddr (n := x33.length) Tryd.underlying26 sz5 rfl rfl hg64.1 hg64.2 hat67) rfl ?_
 refine WL.eff (EO.storeOwn (dd := (Kd.int .u8)) (a := (IntKind.u8.wrap ((rd x33 (0 : Int)) + x50))) sz5 rfl hat67 rfl hg64.1 hg64.2 rfl hx33 rfl) rfl ?_
 rintro _ _ _ - ⟨rfl, c71, rfl, h72⟩
 refine Ns ?_
 refine Pm vx33 hs51_5 rfl ?_
 refine Pa vx33 rfl rfl ?_
 refine Nt ?_
 refine WC.ret ?_
 exact WQ.returnsF h [c71] rfl (results1 rfl rfl) (((hle22.trans hle27).trans hle34).trans hle51) ⟨vx33, c71, rfl, rfl, h72⟩

noncomputable def f_ref02_Int (a0 : Int) : Option (List Int) :=
  (if (decide (a0 < (0 : Int))) = true then (some [(0 : Int)]) else ((f_ref02_Num (IntKind.u64.wrap a0)).bind fun (r25 : (List Int)) => (some r25)))
def f_ref02_Int_post (a0 : Int) : (List Int) → Value → IM → HL → Prop :=
  fun (r0 : (List Int)) (v : Value) (M' : IM) (H' : HL) => ∃ vz0 cz0, vz0 = v ∧ H' = [cz0] ∧ OwnS (Kd.int .u8) M' vz0 r0 cz0
theorem f_ref02_Int_ok (a0 : Int) (M : IM) (res : (List Int)) (h : f_ref02_Int a0 = some res) :
    Tri Tryd.prog 63 #[(.int .i64 a0)] M [] (f_ref02_Int_post a0 res) := by
 unfold f_ref02_Int at h
 refine Tri.enter (fn := Tryd.f63) Tryd.func63 rfl (Nat.le_of_ble_eq_true rfl) ?_
 intro F ρ hρ
 refine Sr ?_
 refine Pa (.slice none 0 0) rfl rfl ?_
 refine Nt ?_
 refine WC.seq ?_
 refine Sr ?_
 refine Pm (.int .i64 a0) (hρ 0) rfl ?_
 refine Pu (.bool (decide (a0 < 0))) (PO.lss rfl rfl) rfl ?_
 refine Nt ?_
 refine WC.cond (b := decide (a0 < 0)) rfl (fun hb21 => ?_) (fun hb21 => ?_)
 have h := ite_t hb21 h
 refine Sr ?_
 refine WL.eff (EO.buildSliceL (cl := [(.int .u8 0)]) Tryd.underlying26 iz5 rfl (Parts.cons (congrArg Value.cells (show ev _ _ = (.int .u8 0) from rfl)) Parts.nil) rfl) rfl ?_
 rintro _ _ _ - ⟨rfl, g22, rfl, rfl⟩
 have h24 : OwnS (Kd.int .u8) M (.slice (some ⟨g22, 0, none⟩) 1 1) [(0 : Int)] [(g22, .cells #[(.int .u8 0)] 5 (0, 0))] := OwnS.rows (css := [[(.int .u8 0)]]) (Rows.cons rfl Rows.nil) rfl rfl
 refine Pa (.slice (some ⟨g22, 0, none⟩) 1 1) rfl rfl ?_
 refine Nt ?_
 refine WC.ret ?_
 refine WQ.thenR ?_
 exact WQ.returnsF h [[(g22, .cells #[(.int .u8 0)] 5 (0, 0))]] rfl (results1 rfl rfl) (IM.le.refl _) ⟨(.slice (some ⟨g22, 0, none⟩) 1 1), [(g22, .cells #[(.int .u8 0)] 5 (0, 0))], rfl, rfl, h24⟩
 have h := ite_f hb21 h
 refine WC.skip ?_
 refine WQ.thenC ?_
 refine Sr ?_
 refine Pm (.int .i64 a0) (hρ 0) rfl ?_
 refine Pu (.int .u64 (IntKind.u64.wrap a0)) (PO.conv us3 Tryd.underlying42 rfl) rfl ?_
 obtain ⟨r25, hr26, h⟩ := bnd h
 refine WL.eff (EO.call0 co93 (f_ref02_Num_ok (IntKind.u64.wrap a0) _ r25 hr26) (args1 rfl)) rfl ?_
 rintro _ M27 _ hle28 ⟨_, ⟨vq29, cq29, rfl, rfl, hq29⟩, rfl⟩
 refine WL.a1 ?_
 refine Pa vq29 rfl rfl ?_
 refine Nt ?_
 refine WC.ret ?_
 exact WQ.returnsF h [cq29] rfl (results1 rfl rfl) hle28 ⟨vq29, cq29, rfl, rfl, hq29⟩

noncomputable def f_ref02_Text (a0 : (List Int)) : Option (List Int) :=
  ((f_ref02_Int (a0.length : Int)).bind fun (r21 : (List Int)) => (grd (r21.length + a0.length ≤ 274877906944) (some (r21 ++ a0))))
def f_ref02_Text_post (a0 : (List Int)) (v0 : Value) : (List Int) → Value → IM → HL → Prop :=
  fun (r0 : (List Int)) (v : Value) (M' : IM) (H' : HL) => ∃ vz0 cz0, vz0 = v ∧ H' = [cz0] ∧ OwnS (Kd.int .u8) M' vz0 r0 cz0
theorem f_ref02_Text_ok (a0 : (List Int)) (M : IM) (v0 : Value) (h0 : RS (Kd.int .u8) M v0 a0) (res : (List Int)) (h : f_ref02_Text a0 = some res) :
    Tri Tryd.prog 42 #[v0] M [] (f_ref02_Text_post a0 v0 res) := by
 unfold f_ref02_Text at h
 refine Tri.enter (fn := Tryd.f42) Tryd.func42 rfl (Nat.le_of_ble_eq_true rfl) ?_
 intro F ρ hρ
 refine Sr ?_
 refine Pa (.slice none 0 0) rfl rfl ?_
 refine Ns ?_
 refine Pm v0 (hρ 0) rfl ?_
 refine Pu (.int .i64 (a0.length : Int)) (PO.lenS Tryd.underlying26 rfl h0.len) rfl ?_
 obtain ⟨r21, hr22, h⟩ := bnd h
 refine WL.eff (EO.call0 co63 (f_ref02_Int_ok (a0.length : Int) _ r21 hr22) (args1 rfl)) rfl ?_
 rintro _ M23 _ hle24 ⟨_, ⟨vq25, cq25, rfl, rfl, hq25⟩, rfl⟩
 have h0 := h0.mono hle24
 refine WL.a1 ?_
 refine Pm v0 (hρ 0) rfl ?_
 obtain ⟨hg29, h⟩ := grd_i h
 refine WL.eff (EO.append (dd := (Kd.int .u8)) (xs := r21) (ys := a0) Tryd.underlying26 Tryd.underlying26 in5 rfl (appB (by decide) hg29) (by decide) rfl rfl hq25 (h0.src _)) rfl ?_
 rintro v28 _ _ - ⟨rfl, c26, rfl, h27⟩
 refine Pa v28 rfl rfl ?_
 refine Nt ?_
 refine WC.ret ?_
 exact WQ.returnsF h [c26] rfl (results1 rfl rfl) hle24 ⟨v28, c26, rfl, rfl, h27⟩

noncomputable def f_ref03_bit (a0 : (List Int)) (a1 : Int) : Option Int :=
  (((if (decide (a1 < (IntKind.i64.wrap ((8 : Int) * (a0.length : Int))))) = true then (grd (0 ≤ IntKind.i64.wrap (a1.tdiv (8 : Int)) ∧ IntKind.i64.wrap (a1.tdiv (8 : Int)) < a0.length) (grd (0 ≤ a1.tmod (8 : Int)) (some (andI .u32 (shrI .u32 (IntKind.u32.wrap (rd a0 (IntKind.i64.wrap (a1.tdiv (8 : Int))))) (a1.tmod (8 : Int))) (1 : Int))))) else (some (0 : Int))) : Option Int).bind fun (x21 : Int) => (((if (decide (a1 < (32 : Int))) = true then (some (IntKind.u32.wrap ((1 : Int) - x21))) else (some x21)) : Option Int).bind fun (x32 : Int) => (some x32)))
def f_ref03_bit_post (a0 : (List Int)) (a1 : Int) (v0 : Value) : Int → Value → IM → HL → Prop :=
  fun (r0 : Int) (v : Value) (M' : IM) (H' : HL) => (.int .u32 r0) = v ∧ H' = []
theorem f_ref03_bit_ok (a0 : (List Int)) (a1 : Int) (M : IM) (v0 : Value) (h0 : RS (Kd.int .u8) M v0 a0) (res : Int) (h : f_ref03_bit a0 a1 = some res) :
    Tri Tryd.prog 94 #[v0, (.int .i64 a1)] M [] (f_ref03_bit_post a0 a1 v0 res) := by
 unfold f_ref03_bit at h
 refine Tri.enter (fn := Tryd.f94) Tryd.func94 rfl (Nat.le_of_ble_eq_true rfl) ?_
 intro F ρ hρ
 refine Sr ?_
 refine Pa (.int .u32 0) rfl rfl ?_
 refine Ns ?_
 refine Pa (.int .u32 0) rfl rfl ?_
 refine Nt ?_
 obtain ⟨x21, hj22, h⟩ := bnd h
 refine WC.joinF (fun (x21 : Int) ρ' M' H' => M.le M' ∧ F = H' ∧ ρ' 1 = (.int .i64 a1) ∧ ρ' 5 = (.int .u32 x21)) x21 ?_ ?_
 have h322 := h
 have h := hj22
 refine Sr ?_
 refine Pm (.int .i64 a1) (hρ 1) rfl ?_
 refine Pm v0 (hρ 0) rfl ?_
 refine Pu (.int .i64 (a0.length : Int)) (PO.lenS Tryd.underlying26 rfl h0.len) rfl ?_
 refine Pu (.int .i64 (IntKind.i64.wrap ((8 : Int) * (a0.length : Int)))) (PO.mul rfl rfl) rfl ?_
 refine Pu (.bool (decide (a1 < (IntKind.i64.wrap ((8 : Int) * (a0.length : Int)))))) (PO.lss rfl rfl) rfl ?_
 refine Nt ?_
 refine WC.cond (b := decide (a1 < (IntKind.i64.wrap ((8 : Int) * (a0.length : Int))))) rfl (fun hb23 => ?_) (fun hb23 => ?_)
 have h := ite_t hb23 h
 refine WC.region ?_
 refine Pm v0 (hρ 0) rfl ?_
 refine Pm (.int .i64 a1) (hρ 1) rfl ?_
 refine Pu (.int .i64 (IntKind.i64.wrap (a1.tdiv (8 : Int)))) (PO.quo rfl rfl (by decide)) rfl ?_
 obtain ⟨hg24, h⟩ := grd_i h
 obtain ⟨p25, cs26, hat27, hrc28, hhas29⟩ := h0.at hg24.1 hg24.2 (by decide)
 obtain rfl := hrc28
 refine Pu (.pointer (some p25)) (PO.indexAddr (n := a0.length) Tryd.underlying26 sz5 rfl rfl hg24.1 hg24.2 hat27) rfl ?_
 refine Pu (.int .u8 (rd a0 (IntKind.i64.wrap (a1.tdiv (8 : Int))))) (PO.loadM pl5 rfl (IM.has0 hhas29)) rfl ?_
 refine Pu (.int .u32 (IntKind.u32.wrap (rd a0 (IntKind.i64.wrap (a1.tdiv (8 : Int)))))) (PO.conv us5 Tryd.underlying73 rfl) rfl ?_
 refine Pm (.int .i64 a1) (hρ 1) rfl ?_
 refine Pu (.int .i64 (a1.tmod (8 : Int))) (PO.rem rfl rfl (by decide)) rfl ?_
 obtain ⟨hg31, h⟩ := grd_i h
 refine Pu (.int .u32 (shrI .u32 (IntKind.u32.wrap (rd a0 (IntKind.i64.wrap (a1.tdiv (8 : Int))))) (a1.tmod (8 : Int)))) (PO.shr rfl rfl hg31) rfl ?_
 refine Pu (.int .u32 (andI .u32 (shrI .u32 (IntKind.u32.wrap (rd a0 (IntKind.i64.wrap (a1.tdiv (8 : Int))))) (a1.tmod (8 : Int))) (1 : Int))) (PO.and rfl rfl) rfl ?_
 refine Pa (.int .u32 (andI .u32 (shrI .u32 (IntKind.u32.wrap (rd a0 (IntKind.i64.wrap (a1.tdiv (8 : Int))))) (a1.tmod (8 : Int))) (1 : Int))) rfl rfl ?_
 refine WL.nil ?_
 obtain rfl := Option.some.inj h
 refine WQ.thenJ ?_
 exact ⟨(IM.le.refl _), rfl, (hρ 1), rfl⟩
 have h := ite_f hb23 h
 refine WC.skip ?_
 obtain rfl := Option.some.inj h
 refine WQ.thenJ ?_
 exact ⟨(IM.le.refl _), rfl, (hρ 1), rfl⟩
 rintro ρ22 M22 H22 ⟨hle22, rfl, hs22_1, hs22_5⟩
 obtain ⟨x32, hj33, h⟩ := bnd h
 refine WC.joinF (fun (x32 : Int) ρ' M' H' => M22.le M' ∧ F = H' ∧ ρ' 5 = (.int .u32 x32)) x32 ?_ ?_
 have h333 := h
 have h := hj33
 refine Sr ?_
 refine Pm (.int .i64 a1) hs22_1 rfl ?_
 refine Pu (.bool (decide (a1 < 32))) (PO.lss rfl rfl) rfl ?_
 refine Nt ?_
 refine WC.cond (b := decide (a1 < 32)) rfl (fun hb34 => ?_) (fun hb34 => ?_)
 have h := ite_t hb34 h
 refine WC.region ?_
 refine Pm (.int .u32 x21) hs22_5 rfl ?_
 refine Pu (.int .u32 (IntKind.u32.wrap ((1 : Int) - x21))) (PO.sub rfl rfl) rfl ?_
 refine Pa (.int .u32 (IntKind.u32.wrap ((1 : Int) - x21))) rfl rfl ?_
 refine WL.nil ?_
 obtain rfl := Option.some.inj h
 refine WQ.thenJ ?_
 exact ⟨(IM.le.refl _), rfl, rfl⟩
 have h := ite_f hb34 h
 refine WC.skip ?_
 obtain rfl := Option.some.inj h
 refine WQ.thenJ ?_
 exact ⟨(IM.le.refl _), rfl, hs22_5⟩
 rintro ρ33 M33 H33 ⟨hle33, rfl, hs33_5⟩
 refine Sr ?_
 refine Pm (.int .u32 x32) hs33_5 rfl ?_
 refine Pa (.int .u32 x32) rfl rfl ?_
 refine Nt ?_
 refine WC.ret ?_
 exact WQ.returnsF h [] rfl (results1 rfl rfl) (hle22.trans hle33) ⟨rfl, rfl⟩

noncomputable def f_ref03_Sum_l0 (a0 : (List Int)) (s_ : (Int × Int)) : Option ((Int × Int) ⊕ Int) :=
  match s_ with
  | (x24, x25) =>
    (if (decide (x25 < (IntKind.i64.wrap ((IntKind.i64.wrap ((8 : Int) * (a0.length : Int))) + (32 : Int))))) = true then ((((f_ref03_bit a0 x25).bind fun (r30 : Int) => (if (decide ((andI .u32 x24 (1 : Int)) = (1 : Int))) = true then (some (xorI .u32 (IntKind.u32.wrap ((IntKind.u32.wrap (x24.tdiv (2 : Int))) + (IntKind.u32.wrap (r30 * (2147483648 : Int))))) (2197175160 : Int))) else (some (IntKind.u32.wrap ((IntKind.u32.wrap (x24.tdiv (2 : Int))) + (IntKind.u32.wrap (r30 * (2147483648 : Int)))))))) : Option Int).bind fun (x28 : Int) => (some (Sum.inl (x28, IntKind.i64.wrap (x25 + (1 : Int)))))) else (some (Sum.inr x24)))
noncomputable def f_ref03_Sum (a0 : (List Int)) : Option Int :=
  ((((iter (f_ref03_Sum_l0 a0) ((0 : Int), (0 : Int))).bind (fun (x26 : Int) => (some x26))) : Option Int).bind fun (x21 : Int) => (some (IntKind.u32.wrap ((4294967295 : Int) - x21))))
def f_ref03_Sum_post (a0 : (List Int)) (v0 : Value) : Int → Value → IM → HL → Prop :=
  fun (r0 : Int) (v : Value) (M' : IM) (H' : HL) => (.int .u32 r0) = v ∧ H' = []
theorem f_ref03_Sum_ok (a0 : (List Int)) (M : IM) (v0 : Value) (h0 : RS (Kd.int .u8) M v0 a0) (res : Int) (h : f_ref03_Sum a0 = some res) :
    Tri Tryd.prog 64 #[v0] M [] (f_ref03_Sum_post a0 v0 res) := by
 unfold f_ref03_Sum at h
 refine Tri.enter (fn := Tryd.f64) Tryd.func64 rfl (Nat.le_of_ble_eq_true rfl) ?_
 intro F ρ hρ
 refine Sr ?_
 refine Pa (.int .u32 0) rfl rfl ?_
 refine Ns ?_
 refine Pa (.int .u32 0) rfl rfl ?_
 refine Nt ?_
 obtain ⟨x21, hj22, h⟩ := bnd h
 refine WC.joinF (fun (x21 : Int) ρ' M' H' => M.le M' ∧ F = H' ∧ ρ' 3 = (.int .u32 x21)) x21 ?_ ?_
 have h322 := h
 have h := hj22
 refine Sr ?_
 refine Pa (.int .i64 0) rfl rfl ?_
 refine Nt ?_
 refine WC.block ?_
 obtain ⟨e23, he23, hK23⟩ := bnd h
 clear h
 refine WC.loop he23 (fun (p_ : (Int × Int)) ρ' M' H' => match p_ with | (x24, x25) => M.le M' ∧ F = H' ∧ ρ' 0 = v0 ∧ ρ' 3 = (.int .u32 x24) ∧ ρ' 4 = (.int .i64 x25)) ?_ ?_
 exact ⟨(IM.le.refl _), rfl, (hρ 0), rfl, rfl⟩
 rintro ⟨x24, x25⟩ o23 ρ23 M23 H23 h ⟨hle23, rfl, hs23_0, hs23_3, hs23_4⟩
 unfold f_ref03_Sum_l0 at h
 have h0 := h0.mono hle23
 refine WC.seq ?_
 refine Sr ?_
 refine Pm (.int .i64 x25) hs23_4 rfl ?_
 refine Pm v0 hs23_0 rfl ?_
 refine Pu (.int .i64 (a0.length : Int)) (PO.lenS Tryd.underlying26 rfl h0.len) rfl ?_
 refine Pu (.int .i64 (IntKind.i64.wrap ((8 : Int) * (a0.length : Int)))) (PO.mul rfl rfl) rfl ?_
 refine Pu (.int .i64 (IntKind.i64.wrap ((IntKind.i64.wrap ((8 : Int) * (a0.length : Int))) + 32))) (PO.add rfl rfl) rfl ?_
 refine Pu (.bool (decide (x25 < (IntKind.i64.wrap ((IntKind.i64.wrap ((8 : Int) * (a0.length : Int))) + 32))))) (PO.lss rfl rfl) rfl ?_
 refine Nt ?_
 refine WC.cond (b := decide (x25 < (IntKind.i64.wrap ((IntKind.i64.wrap ((8 : Int) * (a0.length : Int))) + 32)))) rfl (fun hb27 => ?_) (fun hb27 => ?_)
 have h := ite_t hb27 h
 refine WC.skip ?_
 refine WQ.thenC ?_
 obtain ⟨x28, hj29, h⟩ := bnd h
 refine WC.joinF (fun (x28 : Int) ρ' M' H' => M23.le M' ∧ F = H' ∧ ρ' 0 = v0 ∧ ρ' 3 = (.int .u32 x28) ∧ ρ' 4 = (.int .i64 x25)) x28 ?_ ?_
 have h329 := h
 have h := hj29
 refine WC.block ?_
 refine Sr ?_
 refine Pm (.int .u32 x24) hs23_3 rfl ?_
 refine Pu (.int .u32 (andI .u32 x24 (1 : Int))) (PO.and rfl rfl) rfl ?_
 refine Pa (.int .u32 (andI .u32 x24 (1 : Int))) rfl rfl ?_
 refine Ns ?_
 refine Pm (.int .u32 x24) hs23_3 rfl ?_
 refine Pu (.int .u32 (IntKind.u32.wrap (x24.tdiv (2 : Int)))) (PO.quo rfl rfl (by decide)) rfl ?_
 refine Pm v0 hs23_0 rfl ?_
 refine Pm (.int .i64 x25) hs23_4 rfl ?_
 obtain ⟨r30, hr31, h⟩ := bnd h
 refine WL.eff (EO.call0 co94 (f_ref03_bit_ok a0 x25 _ _ h0 r30 hr31) (args2 rfl rfl)) rfl ?_
 rintro _ M32 _ hle33 ⟨_, ⟨rfl, rfl⟩, rfl⟩
 have h0 := h0.mono hle33
 refine WL.a0 ?_
 refine Pu (.int .u32 (IntKind.u32.wrap (r30 * (2147483648 : Int)))) (PO.mul rfl rfl) rfl ?_
 refine Pu (.int .u32 (IntKind.u32.wrap ((IntKind.u32.wrap (x24.tdiv (2 : Int))) + (IntKind.u32.wrap (r30 * (2147483648 : Int)))))) (PO.add rfl rfl) rfl ?_
 refine Pa (.int .u32 (IntKind.u32.wrap ((IntKind.u32.wrap (x24.tdiv (2 : Int))) + (IntKind.u32.wrap (r30 * (2147483648 : Int)))))) rfl rfl ?_
 refine Ns ?_
 refine Pm (.int .u32 (andI .u32 x24 (1 : Int))) rfl rfl ?_
 refine Pu (.bool (decide ((andI .u32 x24 (1 : Int)) = 1))) (PO.eql rfl rfl) rfl ?_
 refine Nt ?_
 refine WC.cond (b := decide ((andI .u32 x24 (1 : Int)) = 1)) rfl (fun hb35 => ?_) (fun hb35 => ?_)
 have h := ite_t hb35 h
 refine WC.region ?_
 refine Pm (.int .u32 (IntKind.u32.wrap ((IntKind.u32.wrap (x24.tdiv (2 : Int))) + (IntKind.u32.wrap (r30 * (2147483648 : Int)))))) rfl rfl ?_
 refine Pu (.int .u32 (xorI .u32 (IntKind.u32.wrap ((IntKind.u32.wrap (x24.tdiv (2 : Int))) + (IntKind.u32.wrap (r30 * (2147483648 : Int))))) (2197175160 : Int))) (PO.xor rfl rfl) rfl ?_
 refine Pa (.int .u32 (xorI .u32 (IntKind.u32.wrap ((IntKind.u32.wrap (x24.tdiv (2 : Int))) + (IntKind.u32.wrap (r30 * (2147483648 : Int))))) (2197175160 : Int))) rfl rfl ?_
 refine WL.nil ?_
 refine WQ.blockN ?_
 obtain rfl := Option.some.inj h
 refine WQ.thenJ ?_
 exact ⟨hle33, rfl, hs23_0, rfl, hs23_4⟩
 have h := ite_f hb35 h
 refine WC.skip ?_
 refine WQ.blockN ?_
 obtain rfl := Option.some.inj h
 refine WQ.thenJ ?_
 exact ⟨hle33, rfl, hs23_0, rfl, hs23_4⟩
 rintro ρ29 M29 H29 ⟨hle29, rfl, hs29_0, hs29_3, hs29_4⟩
 have h0 := h0.mono hle29
 refine WC.region ?_
 refine Pm (.int .i64 x25) hs29_4 rfl ?_
 refine Pu (.int .i64 (IntKind.i64.wrap (x25 + 1))) (PO.add rfl rfl) rfl ?_
 refine Pa (.int .i64 (IntKind.i64.wrap (x25 + 1))) rfl rfl ?_
 refine WL.nil ?_
 refine WQ.again (x28, IntKind.i64.wrap (x25 + 1)) (Option.some.inj h).symm ?_
 exact ⟨(hle23.trans hle29), rfl, hs29_0, hs29_3, rfl⟩
 have h := ite_f hb27 h
 refine WC.exit ?_
 refine WQ.thenE ?_
 refine WQ.leaveE x24 (Option.some.inj h).symm (fun heq23 => ?_)
 subst heq23
 have h := hK23
 refine WQ.blockH ?_
 obtain rfl := Option.some.inj h
 refine WQ.thenJ ?_
 exact ⟨hle23, rfl, hs23_3⟩
 rintro ρ22 M22 H22 ⟨hle22, rfl, hs22_3⟩
 refine Sr ?_
 refine Pm (.int .u32 x21) hs22_3 rfl ?_
 refine Pu (.int .u32 (IntKind.u32.wrap ((4294967295 : Int) - x21))) (PO.sub rfl rfl) rfl ?_
 refine Pa (.int .u32 (IntKind.u32.wrap ((4294967295 : Int) - x21))) rfl rfl ?_
 refine Nt ?_
 refine WC.ret ?_
 exact WQ.returnsF h [] rfl (results1 rfl rfl) hle22 ⟨rfl, rfl⟩

noncomputable def f_ref03_Put_l0 (s_ : ((List Int) × Int × Int)) : Option (((List Int) × Int × Int) ⊕ (List Int)) :=
  match s_ with
  | (x34, x35, x36) =>
    (if (decide (x36 < (4 : Int))) = true then (grd (x34.length + [IntKind.u8.wrap (x35.tmod (256 : Int))].length ≤ 274877906944) (some (Sum.inl (x34 ++ [IntKind.u8.wrap (x35.tmod (256 : Int))], IntKind.u32.wrap (x35.tdiv (256 : Int)), IntKind.i64.wrap (x36 + (1 : Int)))))) else (some (Sum.inr x34)))
noncomputable def f_ref03_Put (a0 : (List Int)) : Option (List Int) :=
  (grd (([] : List Int).length + a0.length ≤ 274877906944) ((f_ref03_Sum a0).bind fun (r26 : Int) => ((((iter (f_ref03_Put_l0) (([] : List Int) ++ a0, r26, (0 : Int))).bind (fun (x37 : (List Int)) => (some x37))) : Option (List Int)).bind fun (x31 : (List Int)) => (some x31))))
def f_ref03_Put_post (a0 : (List Int)) (v0 : Value) : (List Int) → Value → IM → HL → Prop :=
  fun (r0 : (List Int)) (v : Value) (M' : IM) (H' : HL) => ∃ vz0 cz0, vz0 = v ∧ H' = [cz0] ∧ OwnS (Kd.int .u8) M' vz0 r0 cz0
theorem f_ref03_Put_ok (a0 : (List Int)) (M : IM) (v0 : Value) (h0 : RS (Kd.int .u8) M v0 a0) (res : (List Int)) (h : f_ref03_Put a0 = some res) :
    Tri Tryd.prog 43 #[v0] M [] (f_ref03_Put_post a0 v0 res) := by
 unfold f_ref03_Put at h
 refine Tri.enter (fn := Tryd.f43) Tryd.func43 rfl (Nat.le_of_ble_eq_true rfl) ?_
 intro F ρ hρ
 refine Sr ?_
 refine Pa (.slice none 0 0) rfl rfl ?_
 refine Ns ?_
 refine Pa (.slice none 0 0) rfl rfl ?_
 refine Ns ?_
 refine Pm (.slice none 0 0) rfl rfl ?_
 refine Pm v0 (hρ 0) rfl ?_
 obtain ⟨hg25, h⟩ := grd_i h
 refine WL.e0 ?_
 refine WL.eff (EO.append (dd := (Kd.int .u8)) (xs := []) (ys := a0) Tryd.underlying26 Tryd.underlying26 in5 rfl (appB (by decide) hg25) (by decide) rfl rfl (OwnS.nil _ _) (h0.src _)) rfl ?_
 rintro v24 _ _ - ⟨rfl, c22, rfl, h23⟩
 refine Pa v24 rfl rfl ?_
 refine Ns ?_
 refine Pm v0 (hρ 0) rfl ?_
 obtain ⟨r26, hr27, h⟩ := bnd h
 refine WL.eff (EO.call0 co64 (f_ref03_Sum_ok a0 _ _ h0 r26 hr27) (args1 rfl)) rfl ?_
 rintro _ M28 _ hle29 ⟨_, ⟨rfl, rfl⟩, rfl⟩
 have h0 := h0.mono hle29
 have h23 := h23.mono hle29
 refine WL.a0 ?_
 refine Pa (.int .u32 r26) rfl rfl ?_
 refine Nt ?_
 obtain ⟨x31, hj32, h⟩ := bnd h
 refine WC.joinF (fun (x31 : (List Int)) ρ' M' H' => ∃ vx31 cx31, M28.le M' ∧ cx31 :: F = H' ∧ ρ' 3 = vx31 ∧ OwnS (Kd.int .u8) M' vx31 x31 cx31) x31 ?_ ?_
 have h332 := h
 have h := hj32
 refine Sr ?_
 refine Pa (.int .i64 0) rfl rfl ?_
 refine Nt ?_
 refine WC.block ?_
 obtain ⟨e33, he33, hK33⟩ := bnd h
 clear h
 refine WC.loop he33 (fun (p_ : ((List Int) × Int × Int)) ρ' M' H' => match p_ with | (x34, x35, x36) => ∃ vx34 cx34, M28.le M' ∧ cx34 :: F = H' ∧ ρ' 3 = vx34 ∧ ρ' 4 = (.int .u32 x35) ∧ ρ' 5 = (.int .i64 x36) ∧ OwnS (Kd.int .u8) M' vx34 x34 cx34) ?_ ?_
 exact ⟨v24, c22, (IM.le.refl _), rfl, rfl, rfl, rfl, h23⟩
 rintro ⟨x34, x35, x36⟩ o33 ρ33 M33 H33 h ⟨vx34, cx34, hle33, rfl, hs33_3, hs33_4, hs33_5, hx34⟩
 unfold f_ref03_Put_l0 at h
 refine WC.seq ?_
 refine Sr ?_
 refine Pm (.int .i64 x36) hs33_5 rfl ?_
 refine Pu (.bool (decide (x36 < 4))) (PO.lss rfl rfl) rfl ?_
 refine Nt ?_
 refine WC.cond (b := decide (x36 < 4)) rfl (fun hb38 => ?_) (fun hb38 => ?_)
 have h := ite_t hb38 h
 refine WC.skip ?_
 refine WQ.thenC ?_
 refine WC.seq ?_
 refine WC.block ?_
 refine Sr ?_
 refine Pm vx34 hs33_3 rfl ?_
 refine Pm (.int .u32 x35) hs33_4 rfl ?_
 refine Pu (.int .u32 (x35.tmod (256 : Int))) (PO.rem rfl rfl (by decide)) rfl ?_
 refine Pu (.int .u8 (IntKind.u8.wrap (x35.tmod (256 : Int)))) (PO.conv us73 Tryd.underlying5 rfl) rfl ?_
 refine WL.eff (EO.buildSliceL (cl := [(.int .u8 (IntKind.u8.wrap (x35.tmod (256 : Int))))]) Tryd.underlying26 iz5 rfl (Parts.cons (congrArg Value.cells (show ev _ _ = (.int .u8 (IntKind.u8.wrap (x35.tmod (256 : Int)))) from rfl)) Parts.nil) rfl) rfl ?_
 rintro _ _ _ - ⟨rfl, g39, rfl, rfl⟩
 have h41 : OwnS (Kd.int .u8) M33 (.slice (some ⟨g39, 0, none⟩) 1 1) [IntKind.u8.wrap (x35.tmod (256 : Int))] [(g39, .cells #[(.int .u8 (IntKind.u8.wrap (x35.tmod (256 : Int))))] 5 (0, 0))] := OwnS.rows (css := [[(.int .u8 (IntKind.u8.wrap (x35.tmod (256 : Int))))]]) (Rows.cons rfl Rows.nil) rfl rfl
 obtain ⟨hg45, h⟩ := grd_i h
 refine WL.f1 ?_
 refine WL.eff (EO.append (dd := (Kd.int .u8)) (xs := x34) (ys := [IntKind.u8.wrap (x35.tmod (256 : Int))]) Tryd.underlying26 Tryd.underlying26 in5 rfl (appB (by decide) hg45) (by decide) rfl rfl hx34 (h41.src 1 rfl)) rfl ?_
 rintro v44 _ _ - ⟨rfl, c42, rfl, h43⟩
 refine Pa v44 rfl rfl ?_
 refine Nt ?_
 refine WC.region ?_
 refine Pm (.int .u32 x35) hs33_4 rfl ?_
 refine Pu (.int .u32 (IntKind.u32.wrap (x35.tdiv (256 : Int)))) (PO.quo rfl rfl (by decide)) rfl ?_
 refine Pa (.int .u32 (IntKind.u32.wrap (x35.tdiv (256 : Int)))) rfl rfl ?_
 refine WL.nil ?_
 refine WQ.blockN ?_
 refine WQ.thenC ?_
 refine WC.region ?_
 refine Pm (.int .i64 x36) hs33_5 rfl ?_
 refine Pu (.int .i64 (IntKind.i64.wrap (x36 + 1))) (PO.add rfl rfl) rfl ?_
 refine Pa (.int .i64 (IntKind.i64.wrap (x36 + 1))) rfl rfl ?_
 refine WL.nil ?_
 refine WQ.f1 ?_
 refine WQ.drop ?_
 refine WQ.again (x34 ++ [IntKind.u8.wrap (x35.tmod (256 : Int))], IntKind.u32.wrap (x35.tdiv (256 : Int)), IntKind.i64.wrap (x36 + 1)) (Option.some.inj h).symm ?_
 exact ⟨v44, c42, hle33, rfl, rfl, rfl, rfl, h43⟩
 have h := ite_f hb38 h
 refine WC.exit ?_
 refine WQ.thenE ?_
 refine WQ.leaveE x34 (Option.some.inj h).symm (fun heq33 => ?_)
 subst heq33
 have h := hK33
 refine WQ.blockH ?_
 obtain rfl := Option.some.inj h
 refine WQ.thenJ ?_
 exact ⟨vx34, cx34, hle33, rfl, hs33_3, hx34⟩
 rintro ρ32 M32 H32 ⟨vx31, cx31, hle32, rfl, hs32_3, hx31⟩
 refine Sr ?_
 refine Pm vx31 hs32_3 rfl ?_
 refine Pa vx31 rfl rfl ?_
 refine Nt ?_
 refine WC.ret ?_
 exact WQ.returnsF h [cx31] rfl (results1 rfl rfl) (hle29.trans hle32) ⟨vx31, cx31, rfl, rfl, hx31⟩

noncomputable def f_ref04_Put (a0 : T_api_Frame) : Option ((List Int) × Int × Int) :=
  (((if (decide (a0.Kind < (0 : Int))) = true then (some true) else (some (decide ((63 : Int) < a0.Kind)))) : Option Bool).bind fun (x22 : Bool) => (if x22 = true then (some ([], (5 : Int), a0.Kind)) else (if (decide ((16384 : Int) < (a0.Body.length : Int))) = true then (some ([], (6 : Int), (a0.Body.length : Int))) else ((f_ref02_Text a0.Body).bind fun (r32 : (List Int)) => (grd ([(197 : Int), IntKind.u8.wrap a0.Kind].length + r32.length ≤ 274877906944) ((f_ref03_Put ([(197 : Int), IntKind.u8.wrap a0.Kind] ++ r32)).bind fun (r41 : (List Int)) => (some (r41, (0 : Int), (0 : Int)))))))))
def f_ref04_Put_post (a0 : T_api_Frame) (v0_1 : Value) : ((List Int) × Int × Int) → Value → IM → HL → Prop :=
  fun (p_ : ((List Int) × Int × Int)) (v : Value) (M' : IM) (H' : HL) => match p_ with | (r0, r1, r2) => ∃ vz0 cz0, (.tuple #[vz0, (.int .i64 r1), (.int .i64 r2)]) = v ∧ H' = [cz0] ∧ OwnS (Kd.int .u8) M' vz0 r0 cz0
theorem f_ref04_Put_ok (a0 : T_api_Frame) (M : IM) (v0_1 : Value) (h0_1 : RS (Kd.int .u8) M v0_1 a0.Body) (res : ((List Int) × Int × Int)) (h : f_ref04_Put a0 = some res) :
    Tri Tryd.prog 20 #[(.agg #[(.int .i64 a0.Kind), v0_1])] M [] (f_ref04_Put_post a0 v0_1 res) := by
 unfold f_ref04_Put at h
 refine Tri.enter (fn := Tryd.f20) Tryd.func20 rfl (Nat.le_of_ble_eq_true rfl) ?_
 intro F ρ hρ
 refine Sr ?_
 refine WL.eff (EO.box (cs := #[(.int .i64 a0.Kind), v0_1]) (congrArg Value.cells (asE (.agg #[(.int .i64 a0.Kind), v0_1]) (hρ 0)))) rfl ?_
 rintro _ _ _ - ⟨rfl, g21, rfl, rfl⟩
 refine Pa (.slice none 0 0) rfl rfl ?_
 refine Pa (.int .i64 0) rfl rfl ?_
 refine Pa (.int .i64 0) rfl rfl ?_
 refine Nt ?_
 refine WC.seq ?_
 obtain ⟨x22, hj23, h⟩ := bnd h
 refine WC.joinF (fun (x22 : Bool) ρ' M' H' => M.le M' ∧ [(g21, .cells #[(.int .i64 a0.Kind), v0_1] 40 (0, 0))] :: F = H' ∧ ρ' 1 = (pt g21 0) ∧ ρ' 13 = (.bool x22)) x22 ?_ ?_
 have h323 := h
 have h := hj23
 refine WC.region ?_
 refine Pu (pt g21 0) (PO.fieldAddr fo40_0 rfl rfl) rfl ?_
 refine Pu (.int .i64 a0.Kind) (PO.loadB 0 pl3 rfl rfl rfl) rfl ?_
 refine Pu (.bool (decide (a0.Kind < 0))) (PO.lss rfl rfl) rfl ?_
 refine Pm (.bool (decide (a0.Kind < 0))) rfl rfl ?_
 rcases Bool.eq_false_or_eq_true (decide (a0.Kind < 0)) with hb24 | hb24
 have h := ite_t hb24 h
 iterate 3 refine Of 9 rfl rfl hb24 rfl ?_
 refine Pu (.bool true) (PO.pickT rfl hb24 rfl) rfl ?_
 refine WL.nil ?_
 obtain rfl := Option.some.inj h
 refine WQ.thenJ ?_
 exact ⟨(IM.le.refl _), rfl, rfl, rfl⟩
 have h := ite_f hb24 h
 refine On 9 rfl rfl hb24 ?_
 refine Pu (pt g21 0) (PO.fieldAddr fo40_0 rfl rfl) rfl ?_
 refine On 9 rfl rfl hb24 ?_
 refine Pu (.int .i64 a0.Kind) (PO.loadB 0 pl3 rfl rfl rfl) rfl ?_
 refine On 9 rfl rfl hb24 ?_
 refine Pu (.bool (decide ((63 : Int) < a0.Kind))) (PO.gtr rfl rfl) rfl ?_
 refine Pu (.bool (decide ((63 : Int) < a0.Kind))) (PO.pickF rfl hb24 rfl) rfl ?_
 refine WL.nil ?_
 obtain rfl := Option.some.inj h
 refine WQ.thenJ ?_
 exact ⟨(IM.le.refl _), rfl, rfl, rfl⟩
 rintro ρ23 M23 H23 ⟨hle23, rfl, hs23_1, hs23_13⟩
 have h0_1 := h0_1.mono hle23
 refine WC.cond (b := x22) hs23_13 (fun hb25 => ?_) (fun hb25 => ?_)
 have h := ite_t hb25 h
 refine WC.seq ?_
 refine WC.draw [0, 1, 0, 4, 15] (.pure 0 (.pure 1 (.pure 2 (.pure 3 (.pure 4 .done))))) mixed (by kernel_rfl) ?_
 refine Tp (pt g21 0) rfl (PO.fieldAddr fo40_0 hs23_1 rfl) rfl ?_
 refine Tp (.int .i64 a0.Kind) rfl (PO.loadB 0 pl3 rfl rfl rfl) rfl ?_
 refine Tp (.slice none 0 0) rfl (PO.assign rfl) rfl ?_
 refine Tp (.int .i64 5) rfl (PO.assign rfl) rfl ?_
 refine Tp (.int .i64 a0.Kind) rfl (PO.assign rfl) rfl ?_
 refine WT.fin ?_
 refine WQ.thenC ?_
 refine WC.ret ?_
 refine WQ.thenR ?_
 refine WQ.e0 ?_
 refine WQ.f1 ?_
 refine WQ.drop ?_
 exact WQ.returnsF h [[]] rfl (results3 rfl rfl rfl rfl) hle23 ⟨(.slice none 0 0), [], rfl, rfl, (OwnS.nil _ _)⟩
 have h := ite_f hb25 h
 refine WC.skip ?_
 refine WQ.thenC ?_
 refine WC.seq ?_
 refine Sr ?_
 refine Pu (pt g21 1) (PO.fieldAddr fo40_1 hs23_1 rfl) rfl ?_
 refine Pu v0_1 (PO.loadB 0 pl26 rfl rfl rfl) rfl ?_
 refine Pu (.int .i64 (a0.Body.length : Int)) (PO.lenS Tryd.underlying26 rfl h0_1.len) rfl ?_
 refine Pu (.bool (decide ((16384 : Int) < (a0.Body.length : Int)))) (PO.gtr rfl rfl) rfl ?_
 refine Nt ?_
 refine WC.cond (b := decide ((16384 : Int) < (a0.Body.length : Int))) rfl (fun hb27 => ?_) (fun hb27 => ?_)
 have h := ite_t hb27 h
 refine WC.seq ?_
 refine WC.draw [0, 1, 3, 0, 8, 31] (.pure 0 (.pure 1 (.pure 2 (.pure 3 (.pure 4 (.pure 5 .done)))))) mixed (by kernel_rfl) ?_
 refine Tp (pt g21 1) rfl (PO.fieldAddr fo40_1 hs23_1 rfl) rfl ?_
 refine Tp v0_1 rfl (PO.loadB 0 pl26 rfl rfl rfl) rfl ?_
 refine Tp (.int .i64 (a0.Body.length : Int)) rfl (PO.lenS Tryd.underlying26 rfl h0_1.len) rfl ?_
 refine Tp (.slice none 0 0) rfl (PO.assign rfl) rfl ?_
 refine Tp (.int .i64 6) rfl (PO.assign rfl) rfl ?_
 refine Tp (.int .i64 (a0.Body.length : Int)) rfl (PO.assign rfl) rfl ?_
 refine WT.fin ?_
 refine WQ.thenC ?_
 refine WC.ret ?_
 refine WQ.thenR ?_
 refine WQ.e0 ?_
 refine WQ.f1 ?_
 refine WQ.drop ?_
 exact WQ.returnsF h [[]] rfl (results3 rfl rfl rfl rfl) hle23 ⟨(.slice none 0 0), [], rfl, rfl, (OwnS.nil _ _)⟩
 have h := ite_f hb27 h
 refine WC.skip ?_
 refine WQ.thenC ?_
 refine Sr ?_
 refine Pu (pt g21 0) (PO.fieldAddr fo40_0 hs23_1 rfl) rfl ?_
 refine Pu (.int .i64 a0.Kind) (PO.loadB 0 pl3 rfl rfl rfl) rfl ?_
 refine Pu (.int .u8 (IntKind.u8.wrap a0.Kind)) (PO.conv us3 Tryd.underlying5 rfl) rfl ?_
 refine WL.eff (EO.buildSliceL (cl := [(.int .u8 197), (.int .u8 (IntKind.u8.wrap a0.Kind))]) Tryd.underlying26 iz5 rfl (Parts.cons (congrArg Value.cells (show ev _ _ = (.int .u8 197) from rfl)) (Parts.cons (congrArg Value.cells (show ev _ _ = (.int .u8 (IntKind.u8.wrap a0.Kind)) from rfl)) Parts.nil)) rfl) rfl ?_
 rintro _ _ _ - ⟨rfl, g29, rfl, rfl⟩
 have h31 : OwnS (Kd.int .u8) M23 (.slice (some ⟨g29, 0, none⟩) 2 2) [(197 : Int), IntKind.u8.wrap a0.Kind] [(g29, .cells #[(.int .u8 197), (.int .u8 (IntKind.u8.wrap a0.Kind))] 5 (0, 0))] := OwnS.rows (css := [[(.int .u8 197)], [(.int .u8 (IntKind.u8.wrap a0.Kind))]]) (Rows.cons rfl (Rows.cons rfl Rows.nil)) rfl rfl
 refine Pa (.slice (some ⟨g29, 0, none⟩) 2 2) rfl rfl ?_
 refine Ns ?_
 refine Pm (.slice (some ⟨g29, 0, none⟩) 2 2) rfl rfl ?_
 refine Pu (pt g21 1) (PO.fieldAddr fo40_1 hs23_1 rfl) rfl ?_
 refine Pu v0_1 (PO.loadB 1 pl26 rfl rfl rfl) rfl ?_
 obtain ⟨r32, hr33, h⟩ := bnd h
 refine WL.eff (EO.call0 co42 (f_ref02_Text_ok a0.Body _ _ h0_1 r32 hr33) (args1 rfl)) rfl ?_
 rintro _ M34 _ hle35 ⟨_, ⟨vq36, cq36, rfl, rfl, hq36⟩, rfl⟩
 have h31 := h31.mono hle35
 have h0_1 := h0_1.mono hle35
 refine WL.a1 ?_
 obtain ⟨hg40, h⟩ := grd_i h
 refine WL.f1 ?_
 refine WL.eff (EO.append (dd := (Kd.int .u8)) (xs := [(197 : Int), IntKind.u8.wrap a0.Kind]) (ys := r32) Tryd.underlying26 Tryd.underlying26 in5 rfl (appB (by decide) hg40) (by decide) rfl rfl h31 (hq36.src 1 rfl)) rfl ?_
 rintro v39 _ _ - ⟨rfl, c37, rfl, h38⟩
 refine Pa v39 rfl rfl ?_
 refine Ns ?_
 refine Pm v39 rfl rfl ?_
 obtain ⟨r41, hr42, h⟩ := bnd h
 refine WL.eff (EO.call1 co43 (Tri.lend h38.excl fun w0_ H0_ hs0_ => (f_ref03_Put_ok ([(197 : Int), IntKind.u8.wrap a0.Kind] ++ r32) _ _ (h38.rs hs0_) r41 hr42)) (args1 rfl)) rfl ?_
 rintro _ _ _ hle44 ⟨_, ⟨Ml46, Hl47, hll48, rfl, rfl, ⟨vq45, cq45, rfl, rfl, hq45⟩⟩, rfl⟩
 have h38 := h38.mono hle44
 have h0_1 := h0_1.mono hle44
 have hq45 : OwnS (Kd.int .u8) (Ml46.minus c37) vq45 r41 cq45 := hq45.any (Kd.int_flat _)
 refine WL.a2 ?_
 refine Pa vq45 rfl rfl ?_
 refine Pa (.int .i64 0) rfl rfl ?_
 refine Pa (.int .i64 0) rfl rfl ?_
 refine Nt ?_
 refine WC.ret ?_
 refine WQ.drop ?_
 refine WQ.f1 ?_
 refine WQ.drop ?_
 refine WQ.f1 ?_
 refine WQ.drop ?_
 exact WQ.returnsF h [cq45] rfl (results3 rfl rfl rfl rfl) ((hle23.trans hle35).trans hle44) ⟨vq45, cq45, rfl, rfl, hq45⟩

noncomputable def f_errors_as_fault_l0 (a1 : T_api_Fault) (s_ : GErr) : Option (GErr ⊕ (Bool × ByteArray × Int × GErr)) :=
  match s_ with
  | x23 =>
    (match x23 with | .nil => none | .code n28 => (some (Sum.inr (false, a1.Op, a1.At, a1.Err))) | .fault o29 a30 e31 => (some (Sum.inr (true, o29, a30, e31))) | .other b32 => (some (Sum.inr (false, a1.Op, a1.At, a1.Err))))
noncomputable def f_errors_as_fault (a0 : GErr) (a1 : T_api_Fault) : Option (Bool × ByteArray × Int × GErr) :=
  ((iter (f_errors_as_fault_l0 a1) a0).bind (fun (x24, x25, x26, x27) => (some (x24, x25, x26, x27))))
def f_errors_as_fault_post (a0 : GErr) (a1 : T_api_Fault) (g1 g2 : Nat) : (Bool × ByteArray × Int × GErr) → Value → IM → HL → Prop :=
  fun (p_ : (Bool × ByteArray × Int × GErr)) (v : Value) (M' : IM) (H' : HL) => match p_ with | (r0, r1, r2, r3) => (.bool r0) = v ∧ H' = [[(g1, .cells #[(.string r1), (.int .i64 r2), (GV r3)] 89 (0, 0))], [(g2, .cells #[(.pointer (some ⟨g1, 0, none⟩))] 91 (0, 0))]]
theorem f_errors_as_fault_ok (a0 : GErr) (a1 : T_api_Fault) (M : IM) (g1 g2 : Nat) (res : (Bool × ByteArray × Int × GErr)) (h : f_errors_as_fault a0 a1 = some res) :
    Tri Tryd.prog 68 #[(GV a0), (.iface 91 (pt g1 0)), (.agg #[(pt 1 91), (pt g2 0), (.int .u64 150)]), (.iface 163 (.agg #[.pointer (some ⟨1, 89, none⟩)]))] M [[(g1, .cells (l89 a1).toArray 89 (0, 0))], [(g2, .cells #[(pt g1 0)] 91 (0, 0))]] (f_errors_as_fault_post a0 a1 g1 g2 res) := by
 unfold f_errors_as_fault at h
 refine Tri.enter (fn := Tryd.f68) Tryd.func68 rfl (Nat.le_of_ble_eq_true rfl) ?_
 intro F ρ hρ
 refine Sr ?_
 refine WL.eff (EO.box (cs := #[(pt 1 91), (pt g2 0), (.int .u64 150)]) (congrArg Value.cells (asE (.agg #[(pt 1 91), (pt g2 0), (.int .u64 150)]) (hρ 2)))) rfl ?_
 rintro _ _ _ - ⟨rfl, g21, rfl, rfl⟩
 refine Pa (.bool false) rfl rfl ?_
 refine Nt ?_
 refine WC.block ?_
 obtain ⟨e22, he22, hK22⟩ := bnd h
 clear h
 refine WC.loop he22 (fun (x23 : GErr) ρ' M' H' => M.le M' ∧ [(g21, .cells #[(pt 1 91), (pt g2 0), (.int .u64 150)] 124 (0, 0))] :: [(g1, .cells (l89 a1).toArray 89 (0, 0))] :: [(g2, .cells #[(pt g1 0)] 91 (0, 0))] :: F = H' ∧ ρ' 0 = (GV x23) ∧ ρ' 1 = (.iface 91 (pt g1 0)) ∧ ρ' 3 = (.iface 163 (.agg #[.pointer (some ⟨1, 89, none⟩)])) ∧ ρ' 6 = (pt g21 0)) ?_ ?_
 exact ⟨(IM.le.refl _), rfl, (hρ 0), (hρ 1), (hρ 3), rfl⟩
 rintro x23 o22 ρ22 M22 H22 h ⟨hle22, rfl, hs22_0, hs22_1, hs22_3, hs22_6⟩
 unfold f_errors_as_fault_l0 at h
 refine WC.block ?_
 refine WC.seq ?_
 refine Sr ?_
 refine Pm (GV x23) hs22_0 rfl ?_
 rcases x23 with _ | n28 | ⟨o29, a30, e31⟩ | b32
 refine WL.eff (EO.extP xt89 (args1 (show ev _ _ = .nilIface from rfl)) tyNil) rfl ?_
 rintro _ _ _ - ⟨rfl, rfl, rfl⟩
 refine Pm (.iface 163 (.agg #[.pointer (some ⟨1, 89, none⟩)])) hs22_3 rfl ?_
 exact nones h
 refine WL.eff (EO.extP xt89 (args1 (show ev _ _ = (.iface 47 (.int .i64 n28)) from rfl)) (ty47 _)) rfl ?_
 rintro _ _ _ - ⟨rfl, rfl, rfl⟩
 refine Pm (.iface 163 (.agg #[.pointer (some ⟨1, 89, none⟩)])) hs22_3 rfl ?_
 refine WL.eff (EO.invE (show ev _ _ = (.iface 163 (.agg #[.pointer (some ⟨1, 47, none⟩)])) from rfl) (mm_AssignableTo (pt 1 47)) xt144 (inv1 rfl) mr_AssignableTo_47_89) rfl ?_
 rintro _ _ _ - ⟨rfl, rfl, rfl⟩
 refine Nt ?_
 refine WC.condF (b := false) rfl rfl ?_
 refine WC.skip ?_
 refine WQ.thenC ?_
 refine WC.seq ?_
 refine Sr ?_
 refine Pm (GV (GErr.code n28)) hs22_0 rfl ?_
 refine Pu (.tuple #[.nilIface, (.bool false)]) (PO.asserts (show ev _ _ = (.iface 47 (.int .i64 n28)) from rfl) (la47_167 _ _)) rfl ?_
 refine Pm (.tuple #[.nilIface, (.bool false)]) rfl rfl ?_
 refine Pu .nilIface (PO.extract rfl rfl) rfl ?_
 refine Pu (.bool false) (PO.extract rfl rfl) rfl ?_
 refine Pa .nilIface rfl rfl ?_
 refine Pa (.bool false) rfl rfl ?_
 refine Ns ?_
 refine Pm (.bool false) rfl rfl ?_
 refine Pm (.bool false) rfl rfl ?_
 iterate 3 refine Of 31 rfl rfl rfl rfl ?_
 refine Pu (.bool false) (PO.pickF rfl rfl rfl) rfl ?_
 refine Nt ?_
 refine WC.condF (b := false) rfl rfl ?_
 refine WC.skip ?_
 refine WQ.thenC ?_
 refine Sr ?_
 refine Pm (GV (GErr.code n28)) hs22_0 rfl ?_
 refine Nt ?_
 refine WC.block ?_
 refine Sr ?_
 refine Pu (.tuple #[.nilIface, (.bool false)]) (PO.asserts (show ev _ _ = (.iface 47 (.int .i64 n28)) from rfl) (la47_170 _ _)) rfl ?_
 refine Pu (.bool false) (PO.extract rfl rfl) rfl ?_
 refine Pu .nilIface (PO.extract rfl rfl) rfl ?_
 refine Nt ?_
 refine WC.condF (b := false) rfl rfl ?_
 refine Sr ?_
 refine Pu (.tuple #[.nilIface, (.bool false)]) (PO.asserts (show ev _ _ = (.iface 47 (.int .i64 n28)) from rfl) (la47_171 _ _)) rfl ?_
 refine Pu (.bool false) (PO.extract rfl rfl) rfl ?_
 refine Pu .nilIface (PO.extract rfl rfl) rfl ?_
 refine Nt ?_
 refine WC.condF (b := false) rfl rfl ?_
 refine Sr ?_
 refine Pa (GV (GErr.code n28)) rfl rfl ?_
 refine Ns ?_
 refine Pa (.bool false) rfl rfl ?_
 refine Nt ?_
 refine WC.ret ?_
 refine WQ.blockR ?_
 refine WQ.blockR ?_
 refine WQ.leaveR (false, a1.Op, a1.At, a1.Err) (Option.some.inj h).symm (fun heq22 => ?_)
 subst heq22
 have h := hK22
 refine WQ.blockR ?_
 refine WQ.drop ?_
 exact WQ.returnsF h [[(g1, .cells (l89 a1).toArray 89 (0, 0))], [(g2, .cells #[(pt g1 0)] 91 (0, 0))]] rfl (results1 rfl rfl) hle22 ⟨rfl, rfl⟩
 refine WL.eff (EO.extP xt89 (args1 (show ev _ _ = (.iface 89 (.agg #[.string o29, .int .i64 a30, GV e31])) from rfl)) (ty89 _)) rfl ?_
 rintro _ _ _ - ⟨rfl, rfl, rfl⟩
 refine Pm (.iface 163 (.agg #[.pointer (some ⟨1, 89, none⟩)])) hs22_3 rfl ?_
 refine WL.eff (EO.invE (show ev _ _ = (.iface 163 (.agg #[.pointer (some ⟨1, 89, none⟩)])) from rfl) (mm_AssignableTo (pt 1 89)) xt144 (inv1 rfl) mr_AssignableTo_89_89) rfl ?_
 rintro _ _ _ - ⟨rfl, rfl, rfl⟩
 refine Nt ?_
 refine WC.condT (b := true) rfl rfl ?_
 refine Sr ?_
 refine Pu (.agg #[(pt 1 91), (pt g2 0), (.int .u64 150)]) (PO.loadBA (cs := [(pt 1 91), (pt g2 0), (.int .u64 150)]) 0 ag124 sz124 hs22_6 rfl rfl) rfl ?_
 refine WL.eff (EO.rvElem (r := fun p => .agg #[(pt 1 89), .pointer (some p), .int .u64 409]) 2 xt95 pp91_150 rfl pl91 el91 mk89 (args1 (show ev _ _ = (.agg #[(pt 1 91), (pt g2 0), (.int .u64 150)]) from rfl)) rfl) rfl ?_
 rintro _ _ _ - ⟨rfl, rfl, rfl⟩
 refine Pm (GV (GErr.fault o29 a30 e31)) hs22_0 rfl ?_
 refine WL.eff (EO.valueOf xt65 (args1 (show ev _ _ = (.iface 89 (.agg #[.string o29, .int .i64 a30, GV e31])) from rfl)) (vo89 o29 a30 (GV e31))) rfl ?_
 rintro _ _ _ - ⟨rfl, g33, rfl, rfl⟩
 refine WL.f2 ?_
 refine WL.eff (EO.rvSet (arr := (l89 a1)) (vl := [(.string o29), (.int .i64 a30), (GV e31)]) (v := (.agg #[(.string o29), (.int .i64 a30), (GV e31)])) xt96 pp89_409 pp89_153 rfl da89 (args2 (show ev _ _ = (.agg #[(pt 1 89), (pt g1 0), (.int .u64 409)]) from rfl) (show ev _ _ = (.agg #[(pt 1 89), (pt g33 0), (.int .u64 153)]) from rfl)) (fun _ hs => run_loadAgg (cs := [(.string o29), (.int .i64 a30), (GV e31)]) ag89 sz89 (fun i v hi => by rw [add_lit]; exact hs.cellC 1 rfl (chunkCell_lit.trans (by simpa using hi)))) rfl sz89 rfl (onesOf (Ones.cons rfl (Ones.cons rfl (Ones.cons (GErr.val_one _ _ _ _) Ones.nil))))) rfl ?_
 rintro _ _ _ - ⟨rfl, rfl, rfl⟩
 refine Ns ?_
 refine Pa (.bool true) rfl rfl ?_
 refine Nt ?_
 refine WC.ret ?_
 refine WQ.thenR ?_
 refine WQ.blockR ?_
 refine WQ.leaveR (true, o29, a30, e31) (Option.some.inj h).symm (fun heq22 => ?_)
 subst heq22
 have h := hK22
 refine WQ.blockR ?_
 refine WQ.f1 ?_
 refine WQ.drop ?_
 refine WQ.f1 ?_
 refine WQ.drop ?_
 exact WQ.returnsF h [[(g1, .cells #[(.string o29), (.int .i64 a30), (GV e31)] 89 (0, 0))], [(g2, .cells #[(pt g1 0)] 91 (0, 0))]] rfl (results1 rfl rfl) hle22 ⟨rfl, rfl⟩
 refine WL.eff (EO.extP xt89 (args1 (show ev _ _ = (.iface 0 (.pointer (some b32))) from rfl)) (ty0 _)) rfl ?_
 rintro _ _ _ - ⟨rfl, rfl, rfl⟩
 refine Pm (.iface 163 (.agg #[.pointer (some ⟨1, 89, none⟩)])) hs22_3 rfl ?_
 refine WL.eff (EO.invE (show ev _ _ = (.iface 163 (.agg #[.pointer (some ⟨1, 0, none⟩)])) from rfl) (mm_AssignableTo (pt 1 0)) xt144 (inv1 rfl) mr_AssignableTo_0_89) rfl ?_
 rintro _ _ _ - ⟨rfl, rfl, rfl⟩
 refine Nt ?_
 refine WC.condF (b := false) rfl rfl ?_
 refine WC.skip ?_
 refine WQ.thenC ?_
 refine WC.seq ?_
 refine Sr ?_
 refine Pm (GV (GErr.other b32)) hs22_0 rfl ?_
 refine Pu (.tuple #[.nilIface, (.bool false)]) (PO.asserts (show ev _ _ = (.iface 0 (.pointer (some b32))) from rfl) (la0_167 _ _)) rfl ?_
 refine Pm (.tuple #[.nilIface, (.bool false)]) rfl rfl ?_
 refine Pu .nilIface (PO.extract rfl rfl) rfl ?_
 refine Pu (.bool false) (PO.extract rfl rfl) rfl ?_
 refine Pa .nilIface rfl rfl ?_
 refine Pa (.bool false) rfl rfl ?_
 refine Ns ?_
 refine Pm (.bool false) rfl rfl ?_
 refine Pm (.bool false) rfl rfl ?_
 iterate 3 refine Of 31 rfl rfl rfl rfl ?_
 refine Pu (.bool false) (PO.pickF rfl rfl rfl) rfl ?_
 refine Nt ?_
 refine WC.condF (b := false) rfl rfl ?_
 refine WC.skip ?_
 refine WQ.thenC ?_
 refine Sr ?_
 refine Pm (GV (GErr.other b32)) hs22_0 rfl ?_
 refine Nt ?_
 refine WC.block ?_
 refine Sr ?_
 refine Pu (.tuple #[.nilIface, (.bool false)]) (PO.asserts (show ev _ _ = (.iface 0 (.pointer (some b32))) from rfl) (la0_170 _ _)) rfl ?_
 refine Pu (.bool false) (PO.extract rfl rfl) rfl ?_
 refine Pu .nilIface (PO.extract rfl rfl) rfl ?_
 refine Nt ?_
 refine WC.condF (b := false) rfl rfl ?_
 refine Sr ?_
 refine Pu (.tuple #[.nilIface, (.bool false)]) (PO.asserts (show ev _ _ = (.iface 0 (.pointer (some b32))) from rfl) (la0_171 _ _)) rfl ?_
 refine Pu (.bool false) (PO.extract rfl rfl) rfl ?_
 refine Pu .nilIface (PO.extract rfl rfl) rfl ?_
 refine Nt ?_
 refine WC.condF (b := false) rfl rfl ?_
 refine Sr ?_
 refine Pa (GV (GErr.other b32)) rfl rfl ?_
 refine Ns ?_
 refine Pa (.bool false) rfl rfl ?_
 refine Nt ?_
 refine WC.ret ?_
 refine WQ.blockR ?_
 refine WQ.blockR ?_
 refine WQ.leaveR (false, a1.Op, a1.At, a1.Err) (Option.some.inj h).symm (fun heq22 => ?_)
 subst heq22
 have h := hK22
 refine WQ.blockR ?_
 refine WQ.drop ?_
 exact WQ.returnsF h [[(g1, .cells (l89 a1).toArray 89 (0, 0))], [(g2, .cells #[(pt g1 0)] 91 (0, 0))]] rfl (results1 rfl rfl) hle22 ⟨rfl, rfl⟩

noncomputable def f_errors_As_fault (a0 : GErr) (a1 : T_api_Fault) : Option (Bool × ByteArray × Int × GErr) :=
  (if a0.isNil = true then (some (false, a1.Op, a1.At, a1.Err)) else ((f_errors_as_fault a0 a1).bind fun (r24, r25, r26, r27) => (some (r24, r25, r26, r27))))
def f_errors_As_fault_post (a0 : GErr) (a1 : T_api_Fault) (g1 : Nat) : (Bool × ByteArray × Int × GErr) → Value → IM → HL → Prop :=
  fun (p_ : (Bool × ByteArray × Int × GErr)) (v : Value) (M' : IM) (H' : HL) => match p_ with | (r0, r1, r2, r3) => (.bool r0) = v ∧ H' = [[(g1, .cells #[(.string r1), (.int .i64 r2), (GV r3)] 89 (0, 0))]]
theorem f_errors_As_fault_ok (a0 : GErr) (a1 : T_api_Fault) (M : IM) (g1 : Nat) (hE : Env M) (res : (Bool × ByteArray × Int × GErr)) (h : f_errors_As_fault a0 a1 = some res) :
    Tri Tryd.prog 44 #[(GV a0), (.iface 91 (pt g1 0))] M [[(g1, .cells (l89 a1).toArray 89 (0, 0))]] (f_errors_As_fault_post a0 a1 g1 res) := by
 unfold f_errors_As_fault at h
 refine Tri.enter (fn := Tryd.f44) Tryd.func44 rfl (Nat.le_of_ble_eq_true rfl) ?_
 intro F ρ hρ
 refine Sr ?_
 refine Pa (.bool false) rfl rfl ?_
 refine Nt ?_
 refine WC.seq ?_
 refine Sr ?_
 refine Pm (GV a0) (hρ 0) rfl ?_
 refine Pu (.bool a0.isNil) (PO.errNil Tryd.underlying28 rfl) rfl ?_
 refine Nt ?_
 refine WC.cond (b := a0.isNil) rfl (fun hb21 => ?_) (fun hb21 => ?_)
 have h := ite_t hb21 h
 refine Sr ?_
 refine Pa (.bool false) rfl rfl ?_
 refine Nt ?_
 refine WC.ret ?_
 refine WQ.thenR ?_
 exact WQ.returnsF h [[(g1, .cells (l89 a1).toArray 89 (0, 0))]] rfl (results1 rfl rfl) (IM.le.refl _) ⟨rfl, rfl⟩
 have h := ite_f hb21 h
 refine WC.skip ?_
 refine WQ.thenC ?_
 refine WC.seq ?_
 refine Sr ?_
 refine Pm (.iface 91 (pt g1 0)) (hρ 1) rfl ?_
 refine Pu (.bool false) (PO.ifcNil Tryd.underlying20 rfl) rfl ?_
 refine Nt ?_
 refine WC.condF (b := false) rfl rfl ?_
 refine WC.skip ?_
 refine WQ.thenC ?_
 refine Sr ?_
 refine Pm (.iface 91 (pt g1 0)) (hρ 1) rfl ?_
 refine WL.eff (EO.valueOf xt65 (args1 (show ev _ _ = (.iface 91 (pt g1 0)) from rfl)) (vo91 ⟨g1, 0, none⟩)) rfl ?_
 rintro _ _ _ - ⟨rfl, g22, rfl, rfl⟩
 refine WL.eff (EO.alloc ze124 rfl) rfl ?_
 rintro _ _ _ - ⟨rfl, g23, rfl, rfl⟩
 refine WL.eff (EO.storeL (v := (.agg #[(pt 1 91), (pt g22 0), (.int .u64 150)])) (vl := [(pt 1 91), (pt g22 0), (.int .u64 150)]) (arr' := [(pt 1 91), (pt g22 0), (.int .u64 150)]) rfl sz124 rfl rfl (onesOf (Ones.cons rfl (Ones.cons rfl (Ones.cons rfl Ones.nil)))) rfl rfl rfl) rfl ?_
 rintro _ _ _ - ⟨rfl, rfl⟩
 refine Ns ?_
 refine Pu (.agg #[(pt 1 91), (pt g22 0), (.int .u64 150)]) (PO.loadBA (cs := [(pt 1 91), (pt g22 0), (.int .u64 150)]) 0 ag124 sz124 rfl rfl rfl) rfl ?_
 refine WL.eff (EO.extP xt66 (args1 (show ev _ _ = (.agg #[(pt 1 91), (pt g22 0), (.int .u64 150)]) from rfl)) (vt91_150 _)) rfl ?_
 rintro _ _ _ - ⟨rfl, rfl, rfl⟩
 refine Pa (.iface 163 (.agg #[.pointer (some ⟨1, 91, none⟩)])) rfl rfl ?_
 refine Nt ?_
 refine WC.seq ?_
 refine Sr ?_
 refine Pm (.iface 163 (.agg #[.pointer (some ⟨1, 91, none⟩)])) rfl rfl ?_
 refine WL.eff (EO.invE (show ev _ _ = (.iface 163 (.agg #[.pointer (some ⟨1, 91, none⟩)])) from rfl) (mm_Kind (pt 1 91)) xt134 inv0 mr_Kind_91) rfl ?_
 rintro _ _ _ - ⟨rfl, rfl, rfl⟩
 refine Pu (.bool false) (PO.neqR rfl rfl (by decide)) rfl ?_
 refine Pm (.bool false) rfl rfl ?_
 refine On 20 rfl rfl rfl ?_
 refine Pu (.agg #[(pt 1 91), (pt g22 0), (.int .u64 150)]) (PO.loadBA (cs := [(pt 1 91), (pt g22 0), (.int .u64 150)]) 0 ag124 sz124 rfl rfl rfl) rfl ?_
 refine On 20 rfl rfl rfl ?_
 refine WL.eff (EO.isNil 1 xt67 pp91_150 rfl pl91 (args1 (show ev _ _ = (.agg #[(pt 1 91), (pt g22 0), (.int .u64 150)]) from rfl)) rfl) rfl ?_
 rintro _ _ _ - ⟨rfl, rfl, rfl⟩
 refine Pu (.bool false) (PO.pickF rfl rfl rfl) rfl ?_
 refine Nt ?_
 refine WC.condF (b := false) rfl rfl ?_
 refine WC.skip ?_
 refine WQ.thenC ?_
 refine Sr ?_
 refine Pm (.iface 163 (.agg #[.pointer (some ⟨1, 91, none⟩)])) rfl rfl ?_
 refine WL.eff (EO.invE (show ev _ _ = (.iface 163 (.agg #[.pointer (some ⟨1, 91, none⟩)])) from rfl) (mm_Elem (pt 1 91)) xt146 inv0 mr_Elem_91) rfl ?_
 rintro _ _ _ - ⟨rfl, rfl, rfl⟩
 refine Pa (.iface 163 (.agg #[.pointer (some ⟨1, 89, none⟩)])) rfl rfl ?_
 refine Nt ?_
 refine WC.seq ?_
 refine Sr ?_
 refine Pm (.iface 163 (.agg #[.pointer (some ⟨1, 89, none⟩)])) rfl rfl ?_
 refine WL.eff (EO.invE (show ev _ _ = (.iface 163 (.agg #[.pointer (some ⟨1, 89, none⟩)])) from rfl) (mm_Kind (pt 1 89)) xt134 inv0 mr_Kind_89) rfl ?_
 rintro _ _ _ - ⟨rfl, rfl, rfl⟩
 refine Pu (.bool true) (PO.neqR rfl rfl (by decide)) rfl ?_
 refine Pm (.bool true) rfl rfl ?_
 refine On 30 rfl rfl rfl ?_
 refine Pm (.iface 163 (.agg #[.pointer (some ⟨1, 89, none⟩)])) rfl rfl ?_
 refine On 30 rfl rfl rfl ?_
 refine Pu (.iface 163 (.agg #[.pointer (some ⟨1, 28, none⟩)])) (PO.loadG pl127 hE) rfl ?_
 refine On 30 rfl rfl rfl ?_
 refine WL.eff (EO.invE (show ev _ _ = (.iface 163 (.agg #[.pointer (some ⟨1, 89, none⟩)])) from rfl) (mm_Implements (pt 1 89)) xt147 (inv1 rfl) mr_Implements_89_28) rfl ?_
 rintro _ _ _ - ⟨rfl, rfl, rfl⟩
 refine On 30 rfl rfl rfl ?_
 refine Pu (.bool (!true)) (PO.not rfl) rfl ?_
 refine Pu (.bool (!true)) (PO.pickT rfl rfl rfl) rfl ?_
 refine Nt ?_
 refine WC.condF (b := !true) rfl rfl ?_
 refine WC.skip ?_
 refine WQ.thenC ?_
 refine Sr ?_
 refine Pm (GV a0) (hρ 0) rfl ?_
 refine Pm (.iface 91 (pt g1 0)) (hρ 1) rfl ?_
 refine Pu (.agg #[(pt 1 91), (pt g22 0), (.int .u64 150)]) (PO.loadBA (cs := [(pt 1 91), (pt g22 0), (.int .u64 150)]) 0 ag124 sz124 rfl rfl rfl) rfl ?_
 refine Pm (.iface 163 (.agg #[.pointer (some ⟨1, 89, none⟩)])) rfl rfl ?_
 obtain ⟨⟨r24, r25, r26, r27⟩, hr28, h⟩ := bnd h
 refine WL.f1 ?_
 refine WL.f2 ?_
 refine WL.eff (EO.call2 co68 (f_errors_as_fault_ok a0 a1 _ _ _ (r24, r25, r26, r27) hr28) (args4 rfl rfl rfl rfl)) rfl ?_
 rintro _ M29 _ hle30 ⟨_, ⟨rfl, rfl⟩, rfl⟩
 have hE := hE.mono hle30
 refine WL.a2 ?_
 refine Pa (.bool r24) rfl rfl ?_
 refine Nt ?_
 refine WC.ret ?_
 refine WQ.f1 ?_
 refine WQ.drop ?_
 refine WQ.f1 ?_
 refine WQ.drop ?_
 exact WQ.returnsF h [[(g1, .cells #[(.string r25), (.int .i64 r26), (GV r27)] 89 (0, 0))]] rfl (results1 rfl rfl) hle30 ⟨rfl, rfl⟩

noncomputable def f_fault_Where (a0 : GErr) : Option (Int × Bool) :=
  ((f_errors_As_fault a0 (⟨(⟨#[]⟩ : ByteArray), (0 : Int), GErr.nil⟩ : T_api_Fault)).bind fun (r22, r23, r24, r25) => (if (!r22) = true then (some ((0 : Int), false)) else (some (r24, true))))
def f_fault_Where_post (a0 : GErr) : (Int × Bool) → Value → IM → HL → Prop :=
  fun (p_ : (Int × Bool)) (v : Value) (M' : IM) (H' : HL) => match p_ with | (r0, r1) => (.tuple #[(.int .i64 r0), (.bool r1)]) = v ∧ H' = []
theorem f_fault_Where_ok (a0 : GErr) (M : IM) (hE : Env M) (res : (Int × Bool)) (h : f_fault_Where a0 = some res) :
    Tri Tryd.prog 21 #[(GV a0)] M [] (f_fault_Where_post a0 res) := by
 unfold f_fault_Where at h
 refine Tri.enter (fn := Tryd.f21) Tryd.func21 rfl (Nat.le_of_ble_eq_true rfl) ?_
 intro F ρ hρ
 refine Sr ?_
 refine Pa (.int .i64 0) rfl rfl ?_
 refine Pa (.bool false) rfl rfl ?_
 refine Ns ?_
 refine WL.eff (EO.alloc ze89 rfl) rfl ?_
 rintro _ _ _ - ⟨rfl, g21, rfl, rfl⟩
 refine Nt ?_
 refine WC.seq ?_
 refine Sr ?_
 refine Pm (GV a0) (hρ 0) rfl ?_
 refine Pu (.iface 91 (pt g21 0)) (PO.makeInterface cc91 rfl) rfl ?_
 obtain ⟨⟨r22, r23, r24, r25⟩, hr26, h⟩ := bnd h
 refine WL.eff (EO.call1 co44 (f_errors_As_fault_ok a0 (⟨(⟨#[]⟩ : ByteArray), (0 : Int), GErr.nil⟩ : T_api_Fault) _ _ hE (r22, r23, r24, r25) hr26) (args2 rfl rfl)) rfl ?_
 rintro _ M27 _ hle28 ⟨_, ⟨rfl, rfl⟩, rfl⟩
 have hE := hE.mono hle28
 refine WL.a1 ?_
 refine Pu (.bool (!r22)) (PO.not rfl) rfl ?_
 refine Nt ?_
 refine WC.cond (b := !r22) rfl (fun hb30 => ?_) (fun hb30 => ?_)
 have h := ite_t hb30 h
 refine Sr ?_
 refine Pa (.int .i64 0) rfl rfl ?_
 refine Pa (.bool false) rfl rfl ?_
 refine Nt ?_
 refine WC.ret ?_
 refine WQ.thenR ?_
 refine WQ.drop ?_
 exact WQ.returnsF h [] rfl (results2 rfl rfl rfl) hle28 ⟨rfl, rfl⟩
 have h := ite_f hb30 h
 refine WC.skip ?_
 refine WQ.thenC ?_
 refine Sr ?_
 refine Pu (pt g21 1) (PO.fieldAddr fo89_1 rfl rfl) rfl ?_
 refine Pu (.int .i64 r24) (PO.loadB 0 pl3 rfl rfl rfl) rfl ?_
 refine Pa (.int .i64 r24) rfl rfl ?_
 refine Pa (.bool true) rfl rfl ?_
 refine Nt ?_
 refine WC.ret ?_
 refine WQ.drop ?_
 exact WQ.returnsF h [] rfl (results2 rfl rfl rfl) hle28 ⟨rfl, rfl⟩


end Go.Proofs.YtjiffdgidodebaaDoor.G
