/- Go functions: what they come to, and that they do. Printed by a program of the session (gen). -/
import Derived.Test.YtmifmgpfjamdkaaGF
import Derived.Test.YtmifmgpfjamdkaaG1
set_option linter.unusedVariables false
set_option linter.unusedSimpArgs false
namespace Go.Proofs.Ytmifmgpfjamdkaa.G
open Go Go.KK

noncomputable def f_law03_CrcPuts (a0 : (List Int)) : Option Bool :=
  (if (decide ((500 : Int) < (a0.length : Int))) = true then ((f_law03_works).bind fun (r2 : Bool) => (some r2)) else ((f_crc_Open a0).bind fun (r7, r8) => ((f_ref03_Open a0).bind fun (r14, r15) => ((f_crc_Put a0).bind fun (r21 : (List Int)) => (((if (!(r8 == r15)) = true then (some true) else ((f_ref02_Same r7 r14).bind fun (r29 : Bool) => (if (!r29) = true then (some true) else ((f_ref03_Put a0).bind fun (r38 : (List Int)) => ((f_ref02_Same r21 r38).bind fun (r43 : Bool) => (some (!r43))))))) : Option Bool).bind fun (x26 : Bool) => (if x26 = true then (some false) else ((f_crc_Open r21).bind fun (r55, r56) => (((if r56 = true then ((f_ref02_Same r55 a0).bind fun (r68 : Bool) => (if r68 = true then ((f_law03_works).bind fun (r77 : Bool) => (some r77)) else (some false))) else (some false)) : Option Bool).bind fun (x65 : Bool) => (some x65)))))))))
def f_law03_CrcPuts_post (a0 : (List Int)) (v0 : Value) : Bool → Value → IM → HL → Prop :=
  fun (r0 : Bool) (v : Value) (M' : IM) (H' : HL) => (.bool r0) = v ∧ H' = []
set_option maxHeartbeats 1000000 in
set_option maxRecDepth 100000 in
theorem f_law03_CrcPuts_ok (a0 : (List Int)) (M : IM) (v0 : Value) (h0 : RS (Kd.int .u8) M v0 a0) (res : Bool) (h : f_law03_CrcPuts a0 = some res) :
    Tri Try.prog 5 #[v0] M [] (f_law03_CrcPuts_post a0 v0 res) := by
  unfold f_law03_CrcPuts at h
  refine Tri.enter (fn := Try.f5) Try.func5 rfl (Nat.le_of_ble_eq_true rfl) ?_
  intro F ρ hρ
  refine WC.seq ?_
  refine WC.region ?_
  refine WL.pure (v := (.bool false)) (PO.assign rfl) rfl ?_
  refine WL.nil ?_
  refine WQ.thenC ?_
  refine WC.seq ?_
  refine WC.seq ?_
  refine WC.region ?_
  refine WL.pure (v := v0) (PO.move (hρ 0)) rfl ?_
  refine WL.pure (v := (.int .i64 (a0.length : Int))) (PO.lenS Try.underlying22 rfl h0.len) rfl ?_
  refine WL.pure (v := (.bool (decide ((500 : Int) < (a0.length : Int))))) (PO.gtr rfl rfl) rfl ?_
  refine WL.nil ?_
  refine WQ.thenC ?_
  refine WC.cond (b := decide ((500 : Int) < (a0.length : Int))) rfl (fun hb1 => ?_) (fun hb1 => ?_)
  · have h := ite_t hb1 h
    refine WC.seq ?_
    refine WC.region ?_
    obtain ⟨r2, hr3, h⟩ := bnd h
    refine WL.eff (EO.call0 co11 (args0) (f_law03_works_ok _ r2 hr3)) rfl ?_
    rintro _ M4 _ hle5 ⟨_, ⟨rfl, rfl⟩, rfl⟩
    have h0 := h0.mono hle5
    refine WL.a0 ?_
    refine WL.pure (v := (.bool r2)) (PO.assign rfl) rfl ?_
    refine WL.nil ?_
    refine WQ.thenC ?_
    refine WC.ret ?_
    refine WQ.thenR ?_
    exact WQ.returnsF h [] rfl (results1 rfl rfl) hle5 ⟨rfl, rfl⟩
  · have h := ite_f hb1 h
    refine WC.skip ?_
    refine WQ.thenC ?_
    refine WC.seq ?_
    refine WC.region ?_
    refine WL.pure (v := v0) (PO.move (hρ 0)) rfl ?_
    obtain ⟨⟨r7, r8⟩, hr9, h⟩ := bnd h
    refine WL.eff (EO.call0 co15 (args1 (show ev _ _ = v0 from rfl)) (f_crc_Open_ok a0 _ _ h0 (r7, r8) hr9)) rfl ?_
    rintro _ M10 _ hle11 ⟨_, ⟨vq12, cq12, rfl, rfl, hq12⟩, rfl⟩
    have h0 := h0.mono hle11
    refine WL.a1 ?_
    refine WL.pure (v := (.tuple #[vq12, (.bool r8)])) (PO.move rfl) rfl ?_
    refine WL.pure (v := vq12) (PO.extract rfl rfl) rfl ?_
    refine WL.pure (v := (.bool r8)) (PO.extract rfl rfl) rfl ?_
    refine WL.pure (v := vq12) (PO.assign rfl) rfl ?_
    refine WL.pure (v := (.bool r8)) (PO.assign rfl) rfl ?_
    refine WL.nil ?_
    refine WQ.thenC ?_
    refine WC.seq ?_
    refine WC.region ?_
    refine WL.pure (v := v0) (PO.move (hρ 0)) rfl ?_
    obtain ⟨⟨r14, r15⟩, hr16, h⟩ := bnd h
    refine WL.eff (EO.call0 co16 (args1 (show ev _ _ = v0 from rfl)) (f_ref03_Open_ok a0 _ _ h0 (r14, r15) hr16)) rfl ?_
    rintro _ M17 _ hle18 ⟨_, ⟨vq19, rfl, rfl, hq19⟩, rfl⟩
    have h0 := h0.mono hle18
    have hq12 := hq12.mono hle18
    refine WL.a0 ?_
    refine WL.pure (v := (.tuple #[vq19, (.bool r15)])) (PO.move rfl) rfl ?_
    refine WL.pure (v := vq19) (PO.extract rfl rfl) rfl ?_
    refine WL.pure (v := (.bool r15)) (PO.extract rfl rfl) rfl ?_
    refine WL.pure (v := vq19) (PO.assign rfl) rfl ?_
    refine WL.pure (v := (.bool r15)) (PO.assign rfl) rfl ?_
    refine WL.nil ?_
    refine WQ.thenC ?_
    refine WC.seq ?_
    refine WC.region ?_
    refine WL.pure (v := v0) (PO.move (hρ 0)) rfl ?_
    obtain ⟨r21, hr22, h⟩ := bnd h
    refine WL.eff (EO.call0 co17 (args1 (show ev _ _ = v0 from rfl)) (f_crc_Put_ok a0 _ _ h0 r21 hr22)) rfl ?_
    rintro _ M23 _ hle24 ⟨_, ⟨vq25, cq25, rfl, rfl, hq25⟩, rfl⟩
    have h0 := h0.mono hle24
    have hq12 := hq12.mono hle24
    have hq19 := hq19.mono hle24
    refine WL.a1 ?_
    refine WL.pure (v := vq25) (PO.assign rfl) rfl ?_
    refine WL.nil ?_
    refine WQ.thenC ?_
    refine WC.seq ?_
    obtain ⟨x26, hj27, h⟩ := bnd h
    refine WC.joinF (fun (x26 : Bool) (ρ' : Nat → Value) (M' : IM) (H' : HL) => M23.le M' ∧ cq25 :: F = H' ∧ ρ' 0 = v0 ∧ ρ' 7 = vq25 ∧ ρ' 41 = (.bool x26)) x26 ?_ ?_
    · have h327 := h
      have h := hj27
      refine WC.region ?_
      refine WL.pure (v := (.bool r8)) (PO.move rfl) rfl ?_
      refine WL.pure (v := (.bool r15)) (PO.move rfl) rfl ?_
      refine WL.pure (v := (.bool (!(r8 == r15)))) (PO.bneq Try.underlying4 rfl rfl) rfl ?_
      refine WL.pure (v := (.bool (!(r8 == r15)))) (PO.move rfl) rfl ?_
      rcases Bool.eq_false_or_eq_true (!(r8 == r15)) with hb28 | hb28
      · have h := ite_t hb28 h
        refine WL.off 29 rfl rfl hb28 rfl ?_
        refine WL.off 29 rfl rfl hb28 rfl ?_
        refine WL.off 29 rfl rfl hb28 rfl ?_
        refine WL.off 29 rfl rfl hb28 rfl ?_
        refine WL.pure (v := (.bool true)) (PO.pickT rfl hb28 rfl) rfl ?_
        refine WL.pure (v := (.bool true)) (PO.move rfl) rfl ?_
        refine WL.off 35 rfl rfl rfl rfl ?_
        refine WL.off 35 rfl rfl rfl rfl ?_
        refine WL.off 35 rfl rfl rfl rfl ?_
        refine WL.off 35 rfl rfl rfl rfl ?_
        refine WL.off 35 rfl rfl rfl rfl ?_
        refine WL.pure (v := (.bool true)) (PO.pickT rfl rfl rfl) rfl ?_
        refine WL.nil ?_
        refine WQ.f1 ?_
        refine WQ.drop ?_
        obtain rfl := Option.some.inj h
        refine WQ.thenJ ?_
        exact ⟨(IM.le.refl _), rfl, (hρ 0), rfl, rfl⟩
      · have h := ite_f hb28 h
        refine WL.on 29 rfl rfl hb28 ?_
        refine WL.pure (v := vq12) (PO.move rfl) rfl ?_
        refine WL.on 29 rfl rfl hb28 ?_
        refine WL.pure (v := vq19) (PO.move rfl) rfl ?_
        refine WL.on 29 rfl rfl hb28 ?_
        obtain ⟨r29, hr30, h⟩ := bnd h
        refine WL.f1 ?_
        refine WL.eff (EO.call1 co18 (args2 (show ev _ _ = vq12 from rfl) (show ev _ _ = vq19 from rfl)) (Tri.lend fun w0_ H0_ hs0_ => (f_ref02_Same_ok r7 r14 _ _ _ (hq12.rs hs0_) (hq19.mono (IM.le_add _ _)) r29 hr30))) rfl ?_
        rintro _ _ _ hle32 ⟨_, ⟨Ml34, Hl35, hll36, rfl, rfl, ⟨rfl, rfl⟩⟩, rfl⟩
        have h0 := h0.mono hle32
        have hq12 := hq12.mono hle32
        have hq19 := hq19.mono hle32
        have hq25 := hq25.mono hle32
        refine WL.a1 ?_
        refine WL.on 29 rfl rfl hb28 ?_
        refine WL.pure (v := (.bool (!r29))) (PO.not rfl) rfl ?_
        refine WL.pure (v := (.bool (!r29))) (PO.pickF rfl hb28 rfl) rfl ?_
        refine WL.pure (v := (.bool (!r29))) (PO.move rfl) rfl ?_
        rcases Bool.eq_false_or_eq_true (!r29) with hb37 | hb37
        · have h := ite_t hb37 h
          refine WL.off 35 rfl rfl hb37 rfl ?_
          refine WL.off 35 rfl rfl hb37 rfl ?_
          refine WL.off 35 rfl rfl hb37 rfl ?_
          refine WL.off 35 rfl rfl hb37 rfl ?_
          refine WL.off 35 rfl rfl hb37 rfl ?_
          refine WL.pure (v := (.bool true)) (PO.pickT rfl hb37 rfl) rfl ?_
          refine WL.nil ?_
          refine WQ.drop ?_
          obtain rfl := Option.some.inj h
          refine WQ.thenJ ?_
          exact ⟨hle32, rfl, (hρ 0), rfl, rfl⟩
        · have h := ite_f hb37 h
          refine WL.on 35 rfl rfl hb37 ?_
          refine WL.pure (v := vq25) (PO.move rfl) rfl ?_
          refine WL.on 35 rfl rfl hb37 ?_
          refine WL.pure (v := v0) (PO.move (hρ 0)) rfl ?_
          refine WL.on 35 rfl rfl hb37 ?_
          obtain ⟨r38, hr39, h⟩ := bnd h
          refine WL.eff (EO.call0 co19 (args1 (show ev _ _ = v0 from rfl)) (f_ref03_Put_ok a0 _ _ h0 r38 hr39)) rfl ?_
          rintro _ M40 _ hle41 ⟨_, ⟨vq42, cq42, rfl, rfl, hq42⟩, rfl⟩
          have h0 := h0.mono hle41
          have hq12 := hq12.mono hle41
          have hq19 := hq19.mono hle41
          have hq25 := hq25.mono hle41
          refine WL.a1 ?_
          refine WL.on 35 rfl rfl hb37 ?_
          obtain ⟨r43, hr44, h⟩ := bnd h
          refine WL.f2 ?_
          refine WL.eff (EO.call2 co18 (args2 (show ev _ _ = vq25 from rfl) (show ev _ _ = vq42 from rfl)) (Tri.lend fun w0_ H0_ hs0_ => (Tri.lend fun w1_ H1_ hs1_ => (f_ref02_Same_ok r21 r38 _ _ _ ((hq25.rs hs0_).mono (IM.le_add _ _)) ((hq42.mono (IM.le_add _ _)).rs hs1_) r43 hr44)))) rfl ?_
          rintro _ _ _ hle46 ⟨_, ⟨Ml51, Hl52, hll53, rfl, rfl, ⟨Ml48, Hl49, hll50, rfl, rfl, ⟨rfl, rfl⟩⟩⟩, rfl⟩
          have h0 := h0.mono hle46
          have hq12 := hq12.mono hle46
          have hq19 := hq19.mono hle46
          have hq25 := hq25.mono hle46
          have hq42 := hq42.mono hle46
          refine WL.a2 ?_
          refine WL.on 35 rfl rfl hb37 ?_
          refine WL.pure (v := (.bool (!r43))) (PO.not rfl) rfl ?_
          refine WL.pure (v := (.bool (!r43))) (PO.pickF rfl hb37 rfl) rfl ?_
          refine WL.nil ?_
          refine WQ.f1 ?_
          refine WQ.drop ?_
          refine WQ.f1 ?_
          refine WQ.drop ?_
          obtain rfl := Option.some.inj h
          refine WQ.thenJ ?_
          exact ⟨((hle32.trans hle41).trans hle46), rfl, (hρ 0), rfl, rfl⟩
    · rintro ρ27 M27 H27 ⟨hle27, rfl, hs27_0, hs27_7, hs27_41⟩
      have h0 := h0.mono hle27
      have hq25 := hq25.mono hle27
      refine WC.cond (b := x26) hs27_41 (fun hb54 => ?_) (fun hb54 => ?_)
      · have h := ite_t hb54 h
        refine WC.seq ?_
        refine WC.region ?_
        refine WL.pure (v := (.bool false)) (PO.assign rfl) rfl ?_
        refine WL.nil ?_
        refine WQ.thenC ?_
        refine WC.ret ?_
        refine WQ.thenR ?_
        refine WQ.drop ?_
        exact WQ.returnsF h [] rfl (results1 rfl rfl) (((hle11.trans hle18).trans hle24).trans hle27) ⟨rfl, rfl⟩
      · have h := ite_f hb54 h
        refine WC.skip ?_
        refine WQ.thenC ?_
        refine WC.seq ?_
        refine WC.region ?_
        refine WL.pure (v := vq25) (PO.move hs27_7) rfl ?_
        obtain ⟨⟨r55, r56⟩, hr57, h⟩ := bnd h
        refine WL.eff (EO.call1 co15 (args1 (show ev _ _ = vq25 from rfl)) (Tri.lend fun w0_ H0_ hs0_ => (f_crc_Open_ok r21 _ _ (hq25.rs hs0_) (r55, r56) hr57))) rfl ?_
        rintro _ _ _ hle59 ⟨_, ⟨Ml62, Hl63, hll64, rfl, rfl, ⟨vq60, cq60, rfl, rfl, hq60⟩⟩, rfl⟩
        have h0 := h0.mono hle59
        have hq25 := hq25.mono hle59
        have hq60 : OwnS (Kd.int .u8) (Ml62.minus cq25) vq60 r55 cq60 := hq60.any (Kd.int_flat _)
        refine WL.a2 ?_
        refine WL.pure (v := (.tuple #[vq60, (.bool r56)])) (PO.move rfl) rfl ?_
        refine WL.pure (v := vq60) (PO.extract rfl rfl) rfl ?_
        refine WL.pure (v := (.bool r56)) (PO.extract rfl rfl) rfl ?_
        refine WL.pure (v := vq60) (PO.assign rfl) rfl ?_
        refine WL.pure (v := (.bool r56)) (PO.assign rfl) rfl ?_
        refine WL.nil ?_
        refine WQ.thenC ?_
        obtain ⟨x65, hj66, h⟩ := bnd h
        refine WC.joinF (fun (x65 : Bool) (ρ' : Nat → Value) (M' : IM) (H' : HL) => (Ml62.minus cq25).le M' ∧ F = H' ∧ ρ' 2 = (.bool x65)) x65 ?_ ?_
        · have h366 := h
          have h := hj66
          refine WC.region ?_
          refine WL.pure (v := (.bool r56)) (PO.move rfl) rfl ?_
          refine WL.pure (v := (.bool r56)) (PO.move rfl) rfl ?_
          rcases Bool.eq_false_or_eq_true (r56) with hb67 | hb67
          · have h := ite_t hb67 h
            refine WL.on 48 rfl rfl hb67 ?_
            refine WL.pure (v := vq60) (PO.move rfl) rfl ?_
            refine WL.on 48 rfl rfl hb67 ?_
            refine WL.pure (v := v0) (PO.move hs27_0) rfl ?_
            refine WL.on 48 rfl rfl hb67 ?_
            obtain ⟨r68, hr69, h⟩ := bnd h
            refine WL.f1 ?_
            refine WL.eff (EO.call1 co18 (args2 (show ev _ _ = vq60 from rfl) (show ev _ _ = v0 from rfl)) (Tri.lend fun w0_ H0_ hs0_ => (f_ref02_Same_ok r55 a0 _ _ _ (hq60.rs hs0_) (h0.mono (IM.le_add _ _)) r68 hr69))) rfl ?_
            rintro _ _ _ hle71 ⟨_, ⟨Ml73, Hl74, hll75, rfl, rfl, ⟨rfl, rfl⟩⟩, rfl⟩
            have h0 := h0.mono hle71
            have hq60 := hq60.mono hle71
            refine WL.a1 ?_
            refine WL.pure (v := (.bool r68)) (PO.pickT rfl hb67 rfl) rfl ?_
            refine WL.pure (v := (.bool r68)) (PO.move rfl) rfl ?_
            rcases Bool.eq_false_or_eq_true (r68) with hb76 | hb76
            · have h := ite_t hb76 h
              refine WL.on 53 rfl rfl hb76 ?_
              obtain ⟨r77, hr78, h⟩ := bnd h
              refine WL.eff (EO.call0 co11 (args0) (f_law03_works_ok _ r77 hr78)) rfl ?_
              rintro _ M79 _ hle80 ⟨_, ⟨rfl, rfl⟩, rfl⟩
              have h0 := h0.mono hle80
              have hq60 := hq60.mono hle80
              refine WL.a0 ?_
              refine WL.pure (v := (.bool r77)) (PO.pickT rfl hb76 rfl) rfl ?_
              refine WL.pure (v := (.bool r77)) (PO.assign rfl) rfl ?_
              refine WL.nil ?_
              refine WQ.drop ?_
              refine WQ.drop ?_
              obtain rfl := Option.some.inj h
              refine WQ.thenJ ?_
              exact ⟨(hle71.trans hle80), rfl, rfl⟩
            · have h := ite_f hb76 h
              refine WL.off 53 rfl rfl hb76 rfl ?_
              refine WL.pure (v := (.bool false)) (PO.pickF rfl hb76 rfl) rfl ?_
              refine WL.pure (v := (.bool false)) (PO.assign rfl) rfl ?_
              refine WL.nil ?_
              refine WQ.drop ?_
              refine WQ.drop ?_
              obtain rfl := Option.some.inj h
              refine WQ.thenJ ?_
              exact ⟨hle71, rfl, rfl⟩
          · have h := ite_f hb67 h
            refine WL.off 48 rfl rfl hb67 rfl ?_
            refine WL.off 48 rfl rfl hb67 rfl ?_
            refine WL.off 48 rfl rfl hb67 rfl ?_
            refine WL.pure (v := (.bool false)) (PO.pickF rfl hb67 rfl) rfl ?_
            refine WL.pure (v := (.bool false)) (PO.move rfl) rfl ?_
            refine WL.off 53 rfl rfl rfl rfl ?_
            refine WL.pure (v := (.bool false)) (PO.pickF rfl rfl rfl) rfl ?_
            refine WL.pure (v := (.bool false)) (PO.assign rfl) rfl ?_
            refine WL.nil ?_
            refine WQ.drop ?_
            refine WQ.drop ?_
            obtain rfl := Option.some.inj h
            refine WQ.thenJ ?_
            exact ⟨(IM.le.refl _), rfl, rfl⟩
        · rintro ρ66 M66 H66 ⟨hle66, rfl, hs66_2⟩
          refine WC.ret ?_
          exact WQ.returnsF h [] rfl (results1 rfl hs66_2) (((((hle11.trans hle18).trans hle24).trans hle27).trans hle59).trans hle66) ⟨rfl, rfl⟩

noncomputable def f_law03_CrcTells_l0 (a1 : Int) (a2 : Int) (r10 : (List Int)) (s_ : ((List Int) × Int)) : Option (((List Int) × Int) ⊕ (List Int)) :=
  match s_ with
  | (x20, x21) =>
    (if (decide (x21 < (32 : Int))) = true then (((grd (0 ≤ x21) (if (decide ((andI .u32 (shrI .u32 a2 x21) (1 : Int)) = (1 : Int))) = true then (grd (0 ≤ IntKind.i64.wrap ((IntKind.i64.wrap ((IntKind.i64.wrap ((IntKind.u64.wrap a1).tmod (IntKind.u64.wrap (IntKind.i64.wrap ((IntKind.i64.wrap ((8 : Int) * (r10.length : Int))) - (31 : Int)))))) + x21)).tdiv (8 : Int)) ∧ IntKind.i64.wrap ((IntKind.i64.wrap ((IntKind.i64.wrap ((IntKind.u64.wrap a1).tmod (IntKind.u64.wrap (IntKind.i64.wrap ((IntKind.i64.wrap ((8 : Int) * (r10.length : Int))) - (31 : Int)))))) + x21)).tdiv (8 : Int)) < x20.length) (grd (0 ≤ (IntKind.i64.wrap ((IntKind.i64.wrap ((IntKind.u64.wrap a1).tmod (IntKind.u64.wrap (IntKind.i64.wrap ((IntKind.i64.wrap ((8 : Int) * (r10.length : Int))) - (31 : Int)))))) + x21)).tmod (8 : Int)) (grd (0 ≤ IntKind.i64.wrap ((IntKind.i64.wrap ((IntKind.i64.wrap ((IntKind.u64.wrap a1).tmod (IntKind.u64.wrap (IntKind.i64.wrap ((IntKind.i64.wrap ((8 : Int) * (r10.length : Int))) - (31 : Int)))))) + x21)).tdiv (8 : Int)) ∧ IntKind.i64.wrap ((IntKind.i64.wrap ((IntKind.i64.wrap ((IntKind.u64.wrap a1).tmod (IntKind.u64.wrap (IntKind.i64.wrap ((IntKind.i64.wrap ((8 : Int) * (r10.length : Int))) - (31 : Int)))))) + x21)).tdiv (8 : Int)) < x20.length) (some (x20.set (IntKind.i64.wrap ((IntKind.i64.wrap ((IntKind.i64.wrap ((IntKind.u64.wrap a1).tmod (IntKind.u64.wrap (IntKind.i64.wrap ((IntKind.i64.wrap ((8 : Int) * (r10.length : Int))) - (31 : Int)))))) + x21)).tdiv (8 : Int))).toNat (xorI .u8 (rd x20 (IntKind.i64.wrap ((IntKind.i64.wrap ((IntKind.i64.wrap ((IntKind.u64.wrap a1).tmod (IntKind.u64.wrap (IntKind.i64.wrap ((IntKind.i64.wrap ((8 : Int) * (r10.length : Int))) - (31 : Int)))))) + x21)).tdiv (8 : Int)))) (shlI .u8 (1 : Int) ((IntKind.i64.wrap ((IntKind.i64.wrap ((IntKind.u64.wrap a1).tmod (IntKind.u64.wrap (IntKind.i64.wrap ((IntKind.i64.wrap ((8 : Int) * (r10.length : Int))) - (31 : Int)))))) + x21)).tmod (8 : Int))))))))) else (some x20))) : Option (List Int)).bind fun (x24 : (List Int)) => (some (Sum.inl (x24, IntKind.i64.wrap (x21 + (1 : Int)))))) else (some (Sum.inr x20)))
noncomputable def f_law03_CrcTells (a0 : (List Int)) (a1 : Int) (a2 : Int) : Option Bool :=
  (((if (decide ((500 : Int) < (a0.length : Int))) = true then (some true) else (some (decide (a2 = (0 : Int))))) : Option Bool).bind fun (x1 : Bool) => (if x1 = true then ((f_law03_works).bind fun (r5 : Bool) => (some r5)) else ((f_crc_Put a0).bind fun (r10 : (List Int)) => (if (decide ((r10.length : Int) ≠ (IntKind.i64.wrap ((a0.length : Int) + (4 : Int))))) = true then (some false) else (grd (IntKind.u64.wrap (IntKind.i64.wrap ((IntKind.i64.wrap ((8 : Int) * (r10.length : Int))) - (31 : Int))) ≠ 0) ((((iter (f_law03_CrcTells_l0 a1 a2 r10) (r10, (0 : Int))).bind (fun (x22 : (List Int)) => (some x22))) : Option (List Int)).bind fun (x17 : (List Int)) => ((f_crc_Open x17).bind fun (r45, r46) => (((if (!r46) = true then ((f_law03_works).bind fun (r58 : Bool) => (some r58)) else (some false)) : Option Bool).bind fun (x55 : Bool) => (some x55)))))))))
def f_law03_CrcTells_post (a0 : (List Int)) (a1 : Int) (a2 : Int) (v0 : Value) : Bool → Value → IM → HL → Prop :=
  fun (r0 : Bool) (v : Value) (M' : IM) (H' : HL) => (.bool r0) = v ∧ H' = []
set_option maxHeartbeats 1000000 in
set_option maxRecDepth 100000 in
theorem f_law03_CrcTells_ok (a0 : (List Int)) (a1 : Int) (a2 : Int) (M : IM) (v0 : Value) (h0 : RS (Kd.int .u8) M v0 a0) (res : Bool) (h : f_law03_CrcTells a0 a1 a2 = some res) :
    Tri Try.prog 6 #[v0, (.int .i64 a1), (.int .u32 a2)] M [] (f_law03_CrcTells_post a0 a1 a2 v0 res) := by
  unfold f_law03_CrcTells at h
  refine Tri.enter (fn := Try.f6) Try.func6 rfl (Nat.le_of_ble_eq_true rfl) ?_
  intro F ρ hρ
  refine WC.seq ?_
  refine WC.region ?_
  refine WL.pure (v := (.bool false)) (PO.assign rfl) rfl ?_
  refine WL.nil ?_
  refine WQ.thenC ?_
  refine WC.seq ?_
  obtain ⟨x1, hj2, h⟩ := bnd h
  refine WC.joinF (fun (x1 : Bool) (ρ' : Nat → Value) (M' : IM) (H' : HL) => M.le M' ∧ F = H' ∧ ρ' 0 = v0 ∧ ρ' 1 = (.int .i64 a1) ∧ ρ' 2 = (.int .u32 a2) ∧ ρ' 18 = (.bool x1)) x1 ?_ ?_
  · have h32 := h
    have h := hj2
    refine WC.region ?_
    refine WL.pure (v := v0) (PO.move (hρ 0)) rfl ?_
    refine WL.pure (v := (.int .i64 (a0.length : Int))) (PO.lenS Try.underlying22 rfl h0.len) rfl ?_
    refine WL.pure (v := (.bool (decide ((500 : Int) < (a0.length : Int))))) (PO.gtr rfl rfl) rfl ?_
    refine WL.pure (v := (.bool (decide ((500 : Int) < (a0.length : Int))))) (PO.move rfl) rfl ?_
    rcases Bool.eq_false_or_eq_true (decide ((500 : Int) < (a0.length : Int))) with hb3 | hb3
    · have h := ite_t hb3 h
      refine WL.off 15 rfl rfl hb3 rfl ?_
      refine WL.off 15 rfl rfl hb3 rfl ?_
      refine WL.pure (v := (.bool true)) (PO.pickT rfl hb3 rfl) rfl ?_
      refine WL.nil ?_
      obtain rfl := Option.some.inj h
      refine WQ.thenJ ?_
      exact ⟨(IM.le.refl _), rfl, (hρ 0), (hρ 1), (hρ 2), rfl⟩
    · have h := ite_f hb3 h
      refine WL.on 15 rfl rfl hb3 ?_
      refine WL.pure (v := (.int .u32 a2)) (PO.move (hρ 2)) rfl ?_
      refine WL.on 15 rfl rfl hb3 ?_
      refine WL.pure (v := (.bool (decide (a2 = (0 : Int))))) (PO.eql rfl rfl) rfl ?_
      refine WL.pure (v := (.bool (decide (a2 = (0 : Int))))) (PO.pickF rfl hb3 rfl) rfl ?_
      refine WL.nil ?_
      obtain rfl := Option.some.inj h
      refine WQ.thenJ ?_
      exact ⟨(IM.le.refl _), rfl, (hρ 0), (hρ 1), (hρ 2), rfl⟩
  · rintro ρ2 M2 H2 ⟨hle2, rfl, hs2_0, hs2_1, hs2_2, hs2_18⟩
    have h0 := h0.mono hle2
    refine WC.cond (b := x1) hs2_18 (fun hb4 => ?_) (fun hb4 => ?_)
    · have h := ite_t hb4 h
      refine WC.seq ?_
      refine WC.region ?_
      obtain ⟨r5, hr6, h⟩ := bnd h
      refine WL.eff (EO.call0 co11 (args0) (f_law03_works_ok _ r5 hr6)) rfl ?_
      rintro _ M7 _ hle8 ⟨_, ⟨rfl, rfl⟩, rfl⟩
      have h0 := h0.mono hle8
      refine WL.a0 ?_
      refine WL.pure (v := (.bool r5)) (PO.assign rfl) rfl ?_
      refine WL.nil ?_
      refine WQ.thenC ?_
      refine WC.ret ?_
      refine WQ.thenR ?_
      exact WQ.returnsF h [] rfl (results1 rfl rfl) (hle2.trans hle8) ⟨rfl, rfl⟩
    · have h := ite_f hb4 h
      refine WC.skip ?_
      refine WQ.thenC ?_
      refine WC.seq ?_
      refine WC.region ?_
      refine WL.pure (v := v0) (PO.move hs2_0) rfl ?_
      obtain ⟨r10, hr11, h⟩ := bnd h
      refine WL.eff (EO.call0 co17 (args1 (show ev _ _ = v0 from rfl)) (f_crc_Put_ok a0 _ _ h0 r10 hr11)) rfl ?_
      rintro _ M12 _ hle13 ⟨_, ⟨vq14, cq14, rfl, rfl, hq14⟩, rfl⟩
      have h0 := h0.mono hle13
      refine WL.a1 ?_
      refine WL.pure (v := vq14) (PO.assign rfl) rfl ?_
      refine WL.nil ?_
      refine WQ.thenC ?_
      refine WC.seq ?_
      refine WC.seq ?_
      refine WC.region ?_
      refine WL.pure (v := vq14) (PO.move rfl) rfl ?_
      refine WL.pure (v := (.int .i64 (r10.length : Int))) (PO.lenS Try.underlying22 rfl hq14.len) rfl ?_
      refine WL.pure (v := v0) (PO.move hs2_0) rfl ?_
      refine WL.pure (v := (.int .i64 (a0.length : Int))) (PO.lenS Try.underlying22 rfl h0.len) rfl ?_
      refine WL.pure (v := (.int .i64 (IntKind.i64.wrap ((a0.length : Int) + (4 : Int))))) (PO.add rfl rfl) rfl ?_
      refine WL.pure (v := (.bool (decide ((r10.length : Int) ≠ (IntKind.i64.wrap ((a0.length : Int) + (4 : Int))))))) (PO.neq rfl rfl) rfl ?_
      refine WL.nil ?_
      refine WQ.thenC ?_
      refine WC.cond (b := decide ((r10.length : Int) ≠ (IntKind.i64.wrap ((a0.length : Int) + (4 : Int))))) rfl (fun hb15 => ?_) (fun hb15 => ?_)
      · have h := ite_t hb15 h
        refine WC.seq ?_
        refine WC.region ?_
        refine WL.pure (v := (.bool false)) (PO.assign rfl) rfl ?_
        refine WL.nil ?_
        refine WQ.thenC ?_
        refine WC.ret ?_
        refine WQ.thenR ?_
        refine WQ.drop ?_
        exact WQ.returnsF h [] rfl (results1 rfl rfl) (hle2.trans hle13) ⟨rfl, rfl⟩
      · have h := ite_f hb15 h
        refine WC.skip ?_
        refine WQ.thenC ?_
        refine WC.seq ?_
        refine WC.region ?_
        refine WL.pure (v := (.int .i64 a1)) (PO.move hs2_1) rfl ?_
        refine WL.pure (v := (.int .u64 (IntKind.u64.wrap a1))) (PO.conv us3 Try.underlying33 rfl) rfl ?_
        refine WL.pure (v := vq14) (PO.move rfl) rfl ?_
        refine WL.pure (v := (.int .i64 (r10.length : Int))) (PO.lenS Try.underlying22 rfl hq14.len) rfl ?_
        refine WL.pure (v := (.int .i64 (IntKind.i64.wrap ((8 : Int) * (r10.length : Int))))) (PO.mul rfl rfl) rfl ?_
        refine WL.pure (v := (.int .i64 (IntKind.i64.wrap ((IntKind.i64.wrap ((8 : Int) * (r10.length : Int))) - (31 : Int))))) (PO.sub rfl rfl) rfl ?_
        refine WL.pure (v := (.int .u64 (IntKind.u64.wrap (IntKind.i64.wrap ((IntKind.i64.wrap ((8 : Int) * (r10.length : Int))) - (31 : Int)))))) (PO.conv us3 Try.underlying33 rfl) rfl ?_
        obtain ⟨hg16, h⟩ := grd_i h
        refine WL.pure (v := (.int .u64 ((IntKind.u64.wrap a1).tmod (IntKind.u64.wrap (IntKind.i64.wrap ((IntKind.i64.wrap ((8 : Int) * (r10.length : Int))) - (31 : Int))))))) (PO.rem rfl rfl hg16) rfl ?_
        refine WL.pure (v := (.int .i64 (IntKind.i64.wrap ((IntKind.u64.wrap a1).tmod (IntKind.u64.wrap (IntKind.i64.wrap ((IntKind.i64.wrap ((8 : Int) * (r10.length : Int))) - (31 : Int)))))))) (PO.conv us33 Try.underlying3 rfl) rfl ?_
        refine WL.pure (v := (.int .i64 (IntKind.i64.wrap ((IntKind.u64.wrap a1).tmod (IntKind.u64.wrap (IntKind.i64.wrap ((IntKind.i64.wrap ((8 : Int) * (r10.length : Int))) - (31 : Int)))))))) (PO.assign rfl) rfl ?_
        refine WL.nil ?_
        refine WQ.thenC ?_
        obtain ⟨x17, hj18, h⟩ := bnd h
        refine WC.joinF (fun (x17 : (List Int)) (ρ' : Nat → Value) (M' : IM) (H' : HL) => ∃ vx17 cx17, M12.le M' ∧ cx17 :: F = H' ∧ ρ' 7 = vx17 ∧ OwnS (Kd.int .u8) M' vx17 x17 cx17) x17 ?_ ?_
        · have h318 := h
          have h := hj18
          refine WC.seq ?_
          refine WC.region ?_
          refine WL.pure (v := (.int .i64 (0 : Int))) (PO.assign rfl) rfl ?_
          refine WL.nil ?_
          refine WQ.thenC ?_
          refine WC.block ?_
          obtain ⟨e19, he19, hK19⟩ := bnd h
          clear h
          refine WC.loop he19 (fun (p_ : ((List Int) × Int)) (ρ' : Nat → Value) (M' : IM) (H' : HL) => match p_ with | (x20, x21) => ∃ vx20 cx20, M12.le M' ∧ cx20 :: F = H' ∧ ρ' 2 = (.int .u32 a2) ∧ ρ' 7 = vx20 ∧ ρ' 8 = (.int .i64 (IntKind.i64.wrap ((IntKind.u64.wrap a1).tmod (IntKind.u64.wrap (IntKind.i64.wrap ((IntKind.i64.wrap ((8 : Int) * (r10.length : Int))) - (31 : Int))))))) ∧ ρ' 9 = (.int .i64 x21) ∧ OwnS (Kd.int .u8) M' vx20 x20 cx20) ?_ ?_
          · exact ⟨vq14, cq14, (IM.le.refl _), rfl, hs2_2, rfl, rfl, rfl, hq14⟩
          · rintro ⟨x20, x21⟩ o19 ρ19 M19 H19 h ⟨vx20, cx20, hle19, rfl, hs19_2, hs19_7, hs19_8, hs19_9, hx20⟩
            unfold f_law03_CrcTells_l0 at h
            refine WC.seq ?_
            refine WC.seq ?_
            refine WC.region ?_
            refine WL.pure (v := (.int .i64 x21)) (PO.move hs19_9) rfl ?_
            refine WL.pure (v := (.bool (decide (x21 < (32 : Int))))) (PO.lss rfl rfl) rfl ?_
            refine WL.nil ?_
            refine WQ.thenC ?_
            refine WC.cond (b := decide (x21 < (32 : Int))) rfl (fun hb23 => ?_) (fun hb23 => ?_)
            · have h := ite_t hb23 h
              refine WC.skip ?_
              refine WQ.thenC ?_
              obtain ⟨x24, hj25, h⟩ := bnd h
              refine WC.joinF (fun (x24 : (List Int)) (ρ' : Nat → Value) (M' : IM) (H' : HL) => ∃ vx24 cx24, M19.le M' ∧ cx24 :: F = H' ∧ ρ' 2 = (.int .u32 a2) ∧ ρ' 7 = vx24 ∧ ρ' 8 = (.int .i64 (IntKind.i64.wrap ((IntKind.u64.wrap a1).tmod (IntKind.u64.wrap (IntKind.i64.wrap ((IntKind.i64.wrap ((8 : Int) * (r10.length : Int))) - (31 : Int))))))) ∧ ρ' 9 = (.int .i64 x21) ∧ OwnS (Kd.int .u8) M' vx24 x24 cx24) x24 ?_ ?_
              · have h325 := h
                have h := hj25
                refine WC.block ?_
                refine WC.seq ?_
                refine WC.region ?_
                refine WL.pure (v := (.int .u32 a2)) (PO.move hs19_2) rfl ?_
                refine WL.pure (v := (.int .i64 x21)) (PO.move hs19_9) rfl ?_
                obtain ⟨hg26, h⟩ := grd_i h
                refine WL.pure (v := (.int .u32 (shrI .u32 a2 x21))) (PO.shr rfl rfl hg26) rfl ?_
                refine WL.pure (v := (.int .u32 (andI .u32 (shrI .u32 a2 x21) (1 : Int)))) (PO.and rfl rfl) rfl ?_
                refine WL.pure (v := (.bool (decide ((andI .u32 (shrI .u32 a2 x21) (1 : Int)) = (1 : Int))))) (PO.eql rfl rfl) rfl ?_
                refine WL.nil ?_
                refine WQ.thenC ?_
                refine WC.cond (b := decide ((andI .u32 (shrI .u32 a2 x21) (1 : Int)) = (1 : Int))) rfl (fun hb27 => ?_) (fun hb27 => ?_)
                · have h := ite_t hb27 h
                  refine WC.draw [0, 0, 0, 6, 14, 0, 0, 0, 192, 448, 992, 2016, 0, 0, 12288, 28672, 61440, 131040, 262143, 524287] (.pure 0 (.pure 1 (.pure 2 (.pure 3 (.pure 4 (.pure 5 (.pure 6 (.pure 7 (.pure 8 (.pure 9 (.pure 10 (.pure 11 (.pure 12 (.pure 13 (.pure 14 (.pure 15 (.pure 16 (.pure 17 (.pure 18 (.alt 19 .done .none)))))))))))))))))))) mixed (by kernel_rfl) ?_
                  refine WT.pure (v := vx20) rfl (PO.move hs19_7) rfl ?_
                  refine WT.pure (v := (.int .i64 (IntKind.i64.wrap ((IntKind.u64.wrap a1).tmod (IntKind.u64.wrap (IntKind.i64.wrap ((IntKind.i64.wrap ((8 : Int) * (r10.length : Int))) - (31 : Int)))))))) rfl (PO.move hs19_8) rfl ?_
                  refine WT.pure (v := (.int .i64 x21)) rfl (PO.move hs19_9) rfl ?_
                  refine WT.pure (v := (.int .i64 (IntKind.i64.wrap ((IntKind.i64.wrap ((IntKind.u64.wrap a1).tmod (IntKind.u64.wrap (IntKind.i64.wrap ((IntKind.i64.wrap ((8 : Int) * (r10.length : Int))) - (31 : Int)))))) + x21)))) rfl (PO.add rfl rfl) rfl ?_
                  refine WT.pure (v := (.int .i64 (IntKind.i64.wrap ((IntKind.i64.wrap ((IntKind.i64.wrap ((IntKind.u64.wrap a1).tmod (IntKind.u64.wrap (IntKind.i64.wrap ((IntKind.i64.wrap ((8 : Int) * (r10.length : Int))) - (31 : Int)))))) + x21)).tdiv (8 : Int))))) rfl (PO.quo rfl rfl (by decide)) rfl ?_
                  refine WT.pure (v := vx20) rfl (PO.move hs19_7) rfl ?_
                  refine WT.pure (v := (.int .i64 (IntKind.i64.wrap ((IntKind.u64.wrap a1).tmod (IntKind.u64.wrap (IntKind.i64.wrap ((IntKind.i64.wrap ((8 : Int) * (r10.length : Int))) - (31 : Int)))))))) rfl (PO.move hs19_8) rfl ?_
                  refine WT.pure (v := (.int .i64 x21)) rfl (PO.move hs19_9) rfl ?_
                  refine WT.pure (v := (.int .i64 (IntKind.i64.wrap ((IntKind.i64.wrap ((IntKind.u64.wrap a1).tmod (IntKind.u64.wrap (IntKind.i64.wrap ((IntKind.i64.wrap ((8 : Int) * (r10.length : Int))) - (31 : Int)))))) + x21)))) rfl (PO.add rfl rfl) rfl ?_
                  refine WT.pure (v := (.int .i64 (IntKind.i64.wrap ((IntKind.i64.wrap ((IntKind.i64.wrap ((IntKind.u64.wrap a1).tmod (IntKind.u64.wrap (IntKind.i64.wrap ((IntKind.i64.wrap ((8 : Int) * (r10.length : Int))) - (31 : Int)))))) + x21)).tdiv (8 : Int))))) rfl (PO.quo rfl rfl (by decide)) rfl ?_
                  obtain ⟨hg28, h⟩ := grd_i h
                  obtain ⟨p29, cs30, hat31, hrc32, hhas33⟩ := hx20.at hg28.1 hg28.2
                  obtain rfl := hrc32
                  refine WT.pure (v := (.pointer (some p29))) rfl (PO.indexAddr (n := x20.length) Try.underlying22 sz5 rfl rfl hg28.1 hg28.2 hat31) rfl ?_
                  refine WT.pure (v := (.int .u8 (rd x20 (IntKind.i64.wrap ((IntKind.i64.wrap ((IntKind.i64.wrap ((IntKind.u64.wrap a1).tmod (IntKind.u64.wrap (IntKind.i64.wrap ((IntKind.i64.wrap ((8 : Int) * (r10.length : Int))) - (31 : Int)))))) + x21)).tdiv (8 : Int)))))) rfl (PO.loadC 0 pl5 rfl rfl (chunkHas0 hhas33)) rfl ?_
                  refine WT.pure (v := (.int .i64 (IntKind.i64.wrap ((IntKind.u64.wrap a1).tmod (IntKind.u64.wrap (IntKind.i64.wrap ((IntKind.i64.wrap ((8 : Int) * (r10.length : Int))) - (31 : Int)))))))) rfl (PO.move hs19_8) rfl ?_
                  refine WT.pure (v := (.int .i64 x21)) rfl (PO.move hs19_9) rfl ?_
                  refine WT.pure (v := (.int .i64 (IntKind.i64.wrap ((IntKind.i64.wrap ((IntKind.u64.wrap a1).tmod (IntKind.u64.wrap (IntKind.i64.wrap ((IntKind.i64.wrap ((8 : Int) * (r10.length : Int))) - (31 : Int)))))) + x21)))) rfl (PO.add rfl rfl) rfl ?_
                  refine WT.pure (v := (.int .i64 ((IntKind.i64.wrap ((IntKind.i64.wrap ((IntKind.u64.wrap a1).tmod (IntKind.u64.wrap (IntKind.i64.wrap ((IntKind.i64.wrap ((8 : Int) * (r10.length : Int))) - (31 : Int)))))) + x21)).tmod (8 : Int)))) rfl (PO.rem rfl rfl (by decide)) rfl ?_
                  obtain ⟨hg35, h⟩ := grd_i h
                  refine WT.pure (v := (.int .u8 (shlI .u8 (1 : Int) ((IntKind.i64.wrap ((IntKind.i64.wrap ((IntKind.u64.wrap a1).tmod (IntKind.u64.wrap (IntKind.i64.wrap ((IntKind.i64.wrap ((8 : Int) * (r10.length : Int))) - (31 : Int)))))) + x21)).tmod (8 : Int))))) rfl (PO.shl rfl rfl hg35) rfl ?_
                  refine WT.pure (v := (.int .u8 (xorI .u8 (rd x20 (IntKind.i64.wrap ((IntKind.i64.wrap ((IntKind.i64.wrap ((IntKind.u64.wrap a1).tmod (IntKind.u64.wrap (IntKind.i64.wrap ((IntKind.i64.wrap ((8 : Int) * (r10.length : Int))) - (31 : Int)))))) + x21)).tdiv (8 : Int)))) (shlI .u8 (1 : Int) ((IntKind.i64.wrap ((IntKind.i64.wrap ((IntKind.u64.wrap a1).tmod (IntKind.u64.wrap (IntKind.i64.wrap ((IntKind.i64.wrap ((8 : Int) * (r10.length : Int))) - (31 : Int)))))) + x21)).tmod (8 : Int)))))) rfl (PO.xor rfl rfl) rfl ?_
                  obtain ⟨hg36, h⟩ := grd_i h
                  obtain ⟨p37, cs38, hat39, hrc40, hhas41⟩ := hx20.at hg36.1 hg36.2
                  obtain rfl := hrc40
                  refine WT.pure (v := (.pointer (some p37))) rfl (PO.indexAddr (n := x20.length) Try.underlying22 sz5 rfl rfl hg36.1 hg36.2 hat39) rfl ?_
                  refine WT.alt rfl (EO.storeOwn (dd := (Kd.int .u8)) (a := (xorI .u8 (rd x20 (IntKind.i64.wrap ((IntKind.i64.wrap ((IntKind.i64.wrap ((IntKind.u64.wrap a1).tmod (IntKind.u64.wrap (IntKind.i64.wrap ((IntKind.i64.wrap ((8 : Int) * (r10.length : Int))) - (31 : Int)))))) + x21)).tdiv (8 : Int)))) (shlI .u8 (1 : Int) ((IntKind.i64.wrap ((IntKind.i64.wrap ((IntKind.u64.wrap a1).tmod (IntKind.u64.wrap (IntKind.i64.wrap ((IntKind.i64.wrap ((8 : Int) * (r10.length : Int))) - (31 : Int)))))) + x21)).tmod (8 : Int))))) sz5 rfl hat39 rfl hg36.1 hg36.2 rfl hx20 rfl) rfl ?_ ?_
                  · rintro _ _ _ - ⟨rfl, c43, rfl, h44⟩
                    refine ⟨(StabL.anc rfl (StabL.anc rfl (StabL.anc rfl (StabL.anc rfl (StabL.anc rfl (StabL.anc rfl (StabL.anc rfl (StabL.anc rfl (StabL.anc rfl (StabL.anc rfl (StabL.anc rfl (StabL.anc rfl (StabL.anc rfl (StabL.anc rfl (StabL.anc rfl (StabL.anc rfl (StabL.anc rfl (StabL.anc rfl (StabL.anc rfl trivial))))))))))))))))))), ?_⟩
                    refine WT.fin ?_
                    refine WQ.blockN ?_
                    obtain rfl := Option.some.inj h
                    refine WQ.thenJ ?_
                    exact ⟨vx20, c43, (IM.le.refl _), rfl, hs19_2, hs19_7, hs19_8, hs19_9, h44⟩
                  · exact WT.no
                · have h := ite_f hb27 h
                  refine WC.skip ?_
                  refine WQ.blockN ?_
                  obtain rfl := Option.some.inj h
                  refine WQ.thenJ ?_
                  exact ⟨vx20, cx20, (IM.le.refl _), rfl, hs19_2, hs19_7, hs19_8, hs19_9, hx20⟩
              · rintro ρ25 M25 H25 ⟨vx24, cx24, hle25, rfl, hs25_2, hs25_7, hs25_8, hs25_9, hx24⟩
                refine WC.region ?_
                refine WL.pure (v := (.int .i64 x21)) (PO.move hs25_9) rfl ?_
                refine WL.pure (v := (.int .i64 (IntKind.i64.wrap (x21 + (1 : Int))))) (PO.add rfl rfl) rfl ?_
                refine WL.pure (v := (.int .i64 (IntKind.i64.wrap (x21 + (1 : Int))))) (PO.assign rfl) rfl ?_
                refine WL.nil ?_
                refine WQ.again (x24, IntKind.i64.wrap (x21 + (1 : Int))) (Option.some.inj h).symm ?_
                exact ⟨vx24, cx24, (hle19.trans hle25), rfl, hs25_2, hs25_7, hs25_8, rfl, hx24⟩
            · have h := ite_f hb23 h
              refine WC.exit ?_
              refine WQ.thenE ?_
              refine WQ.leaveE x20 (Option.some.inj h).symm (fun heq19 => ?_)
              subst heq19
              have h := hK19
              refine WQ.blockH ?_
              obtain rfl := Option.some.inj h
              refine WQ.thenJ ?_
              exact ⟨vx20, cx20, hle19, rfl, hs19_7, hx20⟩
        · rintro ρ18 M18 H18 ⟨vx17, cx17, hle18, rfl, hs18_7, hx17⟩
          refine WC.seq ?_
          refine WC.region ?_
          refine WL.pure (v := vx17) (PO.move hs18_7) rfl ?_
          obtain ⟨⟨r45, r46⟩, hr47, h⟩ := bnd h
          refine WL.eff (EO.call1 co15 (args1 (show ev _ _ = vx17 from rfl)) (Tri.lend fun w0_ H0_ hs0_ => (f_crc_Open_ok x17 _ _ (hx17.rs hs0_) (r45, r46) hr47))) rfl ?_
          rintro _ _ _ hle49 ⟨_, ⟨Ml52, Hl53, hll54, rfl, rfl, ⟨vq50, cq50, rfl, rfl, hq50⟩⟩, rfl⟩
          have hx17 := hx17.mono hle49
          have hq50 : OwnS (Kd.int .u8) (Ml52.minus cx17) vq50 r45 cq50 := hq50.any (Kd.int_flat _)
          refine WL.a2 ?_
          refine WL.pure (v := (.tuple #[vq50, (.bool r46)])) (PO.move rfl) rfl ?_
          refine WL.pure (v := vq50) (PO.extract rfl rfl) rfl ?_
          refine WL.pure (v := (.bool r46)) (PO.extract rfl rfl) rfl ?_
          refine WL.pure (v := vq50) (PO.assign rfl) rfl ?_
          refine WL.pure (v := (.bool r46)) (PO.assign rfl) rfl ?_
          refine WL.nil ?_
          refine WQ.thenC ?_
          obtain ⟨x55, hj56, h⟩ := bnd h
          refine WC.joinF (fun (x55 : Bool) (ρ' : Nat → Value) (M' : IM) (H' : HL) => (Ml52.minus cx17).le M' ∧ F = H' ∧ ρ' 6 = (.bool x55)) x55 ?_ ?_
          · have h356 := h
            have h := hj56
            refine WC.region ?_
            refine WL.pure (v := (.bool r46)) (PO.move rfl) rfl ?_
            refine WL.pure (v := (.bool (!r46))) (PO.not rfl) rfl ?_
            refine WL.pure (v := (.bool (!r46))) (PO.move rfl) rfl ?_
            rcases Bool.eq_false_or_eq_true (!r46) with hb57 | hb57
            · have h := ite_t hb57 h
              refine WL.on 72 rfl rfl hb57 ?_
              obtain ⟨r58, hr59, h⟩ := bnd h
              refine WL.eff (EO.call0 co11 (args0) (f_law03_works_ok _ r58 hr59)) rfl ?_
              rintro _ M60 _ hle61 ⟨_, ⟨rfl, rfl⟩, rfl⟩
              refine WL.a0 ?_
              refine WL.pure (v := (.bool r58)) (PO.pickT rfl hb57 rfl) rfl ?_
              refine WL.pure (v := (.bool r58)) (PO.assign rfl) rfl ?_
              refine WL.nil ?_
              refine WQ.drop ?_
              refine WQ.drop ?_
              obtain rfl := Option.some.inj h
              refine WQ.thenJ ?_
              exact ⟨hle61, rfl, rfl⟩
            · have h := ite_f hb57 h
              refine WL.off 72 rfl rfl hb57 rfl ?_
              refine WL.pure (v := (.bool false)) (PO.pickF rfl hb57 rfl) rfl ?_
              refine WL.pure (v := (.bool false)) (PO.assign rfl) rfl ?_
              refine WL.nil ?_
              refine WQ.drop ?_
              refine WQ.drop ?_
              obtain rfl := Option.some.inj h
              refine WQ.thenJ ?_
              exact ⟨(IM.le.refl _), rfl, rfl⟩
          · rintro ρ56 M56 H56 ⟨hle56, rfl, hs56_6⟩
            refine WC.ret ?_
            exact WQ.returnsF h [] rfl (results1 rfl hs56_6) ((((hle2.trans hle13).trans hle18).trans hle49).trans hle56) ⟨rfl, rfl⟩


end Go.Proofs.Ytmifmgpfjamdkaa.G
