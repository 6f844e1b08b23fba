/- Go functions: what they come to, and that they do. Printed by a program of the session (gen). -/
import Derived.Test.YtmifmgpfjamdkaaGF
import Derived.Test.YtmifmgpfjamdkaaG2
set_option linter.unusedVariables false
set_option linter.unusedSimpArgs false
namespace Go.Proofs.Ytmifmgpfjamdkaa.G
open Go Go.KK

noncomputable def f_law03_CrcLinear_l0 (a0 : (List Int)) (a1 : (List Int)) (a2 : (List Int)) (s_ : ((List Int) × Int)) : Option (((List Int) × Int) ⊕ (List Int)) :=
  match s_ with
  | (x14, x15) =>
    (if (decide (x15 < (a0.length : Int))) = true then (grd (0 ≤ x15 ∧ x15 < a0.length) (grd (0 ≤ x15 ∧ x15 < a1.length) (grd (0 ≤ x15 ∧ x15 < a2.length) (grd (x14.length + [xorI .u8 (xorI .u8 (rd a0 x15) (rd a1 x15)) (rd a2 x15)].length ≤ 274877906944) (some (Sum.inl (x14 ++ [xorI .u8 (xorI .u8 (rd a0 x15) (rd a1 x15)) (rd a2 x15)], IntKind.i64.wrap (x15 + (1 : Int))))))))) else (some (Sum.inr x14)))
noncomputable def f_law03_CrcLinear (a0 : (List Int)) (a1 : (List Int)) (a2 : (List Int)) : Option Bool :=
  (((if (decide ((400 : Int) < (a0.length : Int))) = true then (some true) else (if (decide ((a1.length : Int) < (a0.length : Int))) = true then (some true) else (some (decide ((a2.length : Int) < (a0.length : Int)))))) : Option Bool).bind fun (x1 : Bool) => (if x1 = true then ((f_law03_works).bind fun (r6 : Bool) => (some r6)) else ((((iter (f_law03_CrcLinear_l0 a0 a1 a2) ([], (0 : Int))).bind (fun (x16 : (List Int)) => (some x16))) : Option (List Int)).bind fun (x11 : (List Int)) => (((grd (0 ≤ (0 : Int) ∧ (0 : Int) ≤ (a0.length : Int) ∧ (a0.length : Int) ≤ (a1.length : Int)) (grd (0 ≤ (0 : Int) ∧ (0 : Int) ≤ (a0.length : Int) ∧ (a0.length : Int) ≤ (a2.length : Int)) ((f_crc_Sum x11).bind fun (r53 : Int) => ((f_crc_Sum a0).bind fun (r61 : Int) => ((f_crc_Sum (sub a1 (0 : Int) (a0.length : Int))).bind fun (r66 : Int) => ((f_crc_Sum (sub a2 (0 : Int) (a0.length : Int))).bind fun (r71 : Int) => (if (decide (r53 = (xorI .u32 (xorI .u32 r61 r66) r71))) = true then ((f_law03_works).bind fun (r77 : Bool) => (some r77)) else (some false)))))))) : Option Bool).bind fun (x47 : Bool) => (some x47)))))
def f_law03_CrcLinear_post (a0 : (List Int)) (a1 : (List Int)) (a2 : (List Int)) (v0 v1 v2 : Value) : Bool → Value → IM → HL → Prop :=
  fun (r0 : Bool) (v : Value) (M' : IM) (H' : HL) => (.bool r0) = v ∧ H' = []
set_option maxHeartbeats 1000000 in
set_option maxRecDepth 100000 in
theorem f_law03_CrcLinear_ok (a0 : (List Int)) (a1 : (List Int)) (a2 : (List Int)) (M : IM) (v0 v1 v2 : Value) (h0 : RS (Kd.int .u8) M v0 a0) (h1 : RS (Kd.int .u8) M v1 a1) (h2 : RS (Kd.int .u8) M v2 a2) (res : Bool) (h : f_law03_CrcLinear a0 a1 a2 = some res) :
    Tri Try.prog 7 #[v0, v1, v2] M [] (f_law03_CrcLinear_post a0 a1 a2 v0 v1 v2 res) := by
  unfold f_law03_CrcLinear at h
  refine Tri.enter (fn := Try.f7) Try.func7 rfl (Nat.le_of_ble_eq_true rfl) ?_
  intro F ρ hρ
  refine WC.seq ?_
  refine WC.region ?_
  refine WL.pure (v := (.bool false)) (PO.assign rfl) rfl ?_
  refine WL.nil ?_
  refine WQ.thenC ?_
  refine WC.seq ?_
  obtain ⟨x1, hj2, h⟩ := bnd h
  refine WC.joinF (fun (x1 : Bool) (ρ' : Nat → Value) (M' : IM) (H' : HL) => M.le M' ∧ F = H' ∧ ρ' 0 = v0 ∧ ρ' 1 = v1 ∧ ρ' 2 = v2 ∧ ρ' 25 = (.bool x1)) x1 ?_ ?_
  · have h32 := h
    have h := hj2
    refine WC.region ?_
    refine WL.pure (v := v0) (PO.move (hρ 0)) rfl ?_
    refine WL.pure (v := (.int .i64 (a0.length : Int))) (PO.lenS Try.underlying22 rfl h0.len) rfl ?_
    refine WL.pure (v := (.bool (decide ((400 : Int) < (a0.length : Int))))) (PO.gtr rfl rfl) rfl ?_
    refine WL.pure (v := (.bool (decide ((400 : Int) < (a0.length : Int))))) (PO.move rfl) rfl ?_
    rcases Bool.eq_false_or_eq_true (decide ((400 : Int) < (a0.length : Int))) with hb3 | hb3
    · have h := ite_t hb3 h
      refine WL.off 12 rfl rfl hb3 rfl ?_
      refine WL.off 12 rfl rfl hb3 rfl ?_
      refine WL.off 12 rfl rfl hb3 rfl ?_
      refine WL.off 12 rfl rfl hb3 rfl ?_
      refine WL.off 12 rfl rfl hb3 rfl ?_
      refine WL.pure (v := (.bool true)) (PO.pickT rfl hb3 rfl) rfl ?_
      refine WL.pure (v := (.bool true)) (PO.move rfl) rfl ?_
      refine WL.off 19 rfl rfl rfl rfl ?_
      refine WL.off 19 rfl rfl rfl rfl ?_
      refine WL.off 19 rfl rfl rfl rfl ?_
      refine WL.off 19 rfl rfl rfl rfl ?_
      refine WL.off 19 rfl rfl rfl rfl ?_
      refine WL.pure (v := (.bool true)) (PO.pickT rfl rfl rfl) rfl ?_
      refine WL.nil ?_
      obtain rfl := Option.some.inj h
      refine WQ.thenJ ?_
      exact ⟨(IM.le.refl _), rfl, (hρ 0), (hρ 1), (hρ 2), rfl⟩
    · have h := ite_f hb3 h
      refine WL.on 12 rfl rfl hb3 ?_
      refine WL.pure (v := v1) (PO.move (hρ 1)) rfl ?_
      refine WL.on 12 rfl rfl hb3 ?_
      refine WL.pure (v := (.int .i64 (a1.length : Int))) (PO.lenS Try.underlying22 rfl h1.len) rfl ?_
      refine WL.on 12 rfl rfl hb3 ?_
      refine WL.pure (v := v0) (PO.move (hρ 0)) rfl ?_
      refine WL.on 12 rfl rfl hb3 ?_
      refine WL.pure (v := (.int .i64 (a0.length : Int))) (PO.lenS Try.underlying22 rfl h0.len) rfl ?_
      refine WL.on 12 rfl rfl hb3 ?_
      refine WL.pure (v := (.bool (decide ((a1.length : Int) < (a0.length : Int))))) (PO.lss rfl rfl) rfl ?_
      refine WL.pure (v := (.bool (decide ((a1.length : Int) < (a0.length : Int))))) (PO.pickF rfl hb3 rfl) rfl ?_
      refine WL.pure (v := (.bool (decide ((a1.length : Int) < (a0.length : Int))))) (PO.move rfl) rfl ?_
      rcases Bool.eq_false_or_eq_true (decide ((a1.length : Int) < (a0.length : Int))) with hb4 | hb4
      · have h := ite_t hb4 h
        refine WL.off 19 rfl rfl hb4 rfl ?_
        refine WL.off 19 rfl rfl hb4 rfl ?_
        refine WL.off 19 rfl rfl hb4 rfl ?_
        refine WL.off 19 rfl rfl hb4 rfl ?_
        refine WL.off 19 rfl rfl hb4 rfl ?_
        refine WL.pure (v := (.bool true)) (PO.pickT rfl hb4 rfl) rfl ?_
        refine WL.nil ?_
        obtain rfl := Option.some.inj h
        refine WQ.thenJ ?_
        exact ⟨(IM.le.refl _), rfl, (hρ 0), (hρ 1), (hρ 2), rfl⟩
      · have h := ite_f hb4 h
        refine WL.on 19 rfl rfl hb4 ?_
        refine WL.pure (v := v2) (PO.move (hρ 2)) rfl ?_
        refine WL.on 19 rfl rfl hb4 ?_
        refine WL.pure (v := (.int .i64 (a2.length : Int))) (PO.lenS Try.underlying22 rfl h2.len) rfl ?_
        refine WL.on 19 rfl rfl hb4 ?_
        refine WL.pure (v := v0) (PO.move (hρ 0)) rfl ?_
        refine WL.on 19 rfl rfl hb4 ?_
        refine WL.pure (v := (.int .i64 (a0.length : Int))) (PO.lenS Try.underlying22 rfl h0.len) rfl ?_
        refine WL.on 19 rfl rfl hb4 ?_
        refine WL.pure (v := (.bool (decide ((a2.length : Int) < (a0.length : Int))))) (PO.lss rfl rfl) rfl ?_
        refine WL.pure (v := (.bool (decide ((a2.length : Int) < (a0.length : Int))))) (PO.pickF rfl hb4 rfl) rfl ?_
        refine WL.nil ?_
        obtain rfl := Option.some.inj h
        refine WQ.thenJ ?_
        exact ⟨(IM.le.refl _), rfl, (hρ 0), (hρ 1), (hρ 2), rfl⟩
  · rintro ρ2 M2 H2 ⟨hle2, rfl, hs2_0, hs2_1, hs2_2, hs2_25⟩
    have h0 := h0.mono hle2
    have h1 := h1.mono hle2
    have h2 := h2.mono hle2
    refine WC.cond (b := x1) hs2_25 (fun hb5 => ?_) (fun hb5 => ?_)
    · have h := ite_t hb5 h
      refine WC.seq ?_
      refine WC.region ?_
      obtain ⟨r6, hr7, h⟩ := bnd h
      refine WL.eff (EO.call0 co11 (args0) (f_law03_works_ok _ r6 hr7)) rfl ?_
      rintro _ M8 _ hle9 ⟨_, ⟨rfl, rfl⟩, rfl⟩
      have h0 := h0.mono hle9
      have h1 := h1.mono hle9
      have h2 := h2.mono hle9
      refine WL.a0 ?_
      refine WL.pure (v := (.bool r6)) (PO.assign rfl) rfl ?_
      refine WL.nil ?_
      refine WQ.thenC ?_
      refine WC.ret ?_
      refine WQ.thenR ?_
      exact WQ.returnsF h [] rfl (results1 rfl rfl) (hle2.trans hle9) ⟨rfl, rfl⟩
    · have h := ite_f hb5 h
      refine WC.skip ?_
      refine WQ.thenC ?_
      refine WC.seq ?_
      refine WC.region ?_
      refine WL.pure (v := (.slice none 0 0)) (PO.assign rfl) rfl ?_
      refine WL.nil ?_
      refine WQ.thenC ?_
      obtain ⟨x11, hj12, h⟩ := bnd h
      refine WC.joinF (fun (x11 : (List Int)) (ρ' : Nat → Value) (M' : IM) (H' : HL) => ∃ vx11 cx11, M2.le M' ∧ cx11 :: F = H' ∧ ρ' 0 = v0 ∧ ρ' 1 = v1 ∧ ρ' 2 = v2 ∧ ρ' 7 = vx11 ∧ OwnS (Kd.int .u8) M' vx11 x11 cx11) x11 ?_ ?_
      · have h312 := h
        have h := hj12
        refine WC.seq ?_
        refine WC.region ?_
        refine WL.pure (v := (.int .i64 (0 : Int))) (PO.assign rfl) rfl ?_
        refine WL.nil ?_
        refine WQ.thenC ?_
        refine WC.block ?_
        refine WC.e0 ?_
        obtain ⟨e13, he13, hK13⟩ := bnd h
        clear h
        refine WC.loop he13 (fun (p_ : ((List Int) × Int)) (ρ' : Nat → Value) (M' : IM) (H' : HL) => match p_ with | (x14, x15) => ∃ vx14 cx14, M2.le M' ∧ cx14 :: F = H' ∧ ρ' 0 = v0 ∧ ρ' 1 = v1 ∧ ρ' 2 = v2 ∧ ρ' 7 = vx14 ∧ ρ' 8 = (.int .i64 x15) ∧ OwnS (Kd.int .u8) M' vx14 x14 cx14) ?_ ?_
        · exact ⟨(.slice none 0 0), [], (IM.le.refl _), rfl, hs2_0, hs2_1, hs2_2, rfl, rfl, (OwnS.nil _ _)⟩
        · rintro ⟨x14, x15⟩ o13 ρ13 M13 H13 h ⟨vx14, cx14, hle13, rfl, hs13_0, hs13_1, hs13_2, hs13_7, hs13_8, hx14⟩
          unfold f_law03_CrcLinear_l0 at h
          have h0 := h0.mono hle13
          have h1 := h1.mono hle13
          have h2 := h2.mono hle13
          refine WC.seq ?_
          refine WC.seq ?_
          refine WC.region ?_
          refine WL.pure (v := (.int .i64 x15)) (PO.move hs13_8) rfl ?_
          refine WL.pure (v := v0) (PO.move hs13_0) rfl ?_
          refine WL.pure (v := (.int .i64 (a0.length : Int))) (PO.lenS Try.underlying22 rfl h0.len) rfl ?_
          refine WL.pure (v := (.bool (decide (x15 < (a0.length : Int))))) (PO.lss rfl rfl) rfl ?_
          refine WL.nil ?_
          refine WQ.thenC ?_
          refine WC.cond (b := decide (x15 < (a0.length : Int))) rfl (fun hb17 => ?_) (fun hb17 => ?_)
          · have h := ite_t hb17 h
            refine WC.skip ?_
            refine WQ.thenC ?_
            refine WC.seq ?_
            refine WC.block ?_
            refine WC.draw [0, 0, 0, 6, 14, 0, 0, 96, 224, 510, 0, 0, 3072, 7168, 16382, 32766, 65535, 131071] (.pure 0 (.pure 1 (.pure 2 (.pure 3 (.pure 4 (.pure 5 (.pure 6 (.pure 7 (.pure 8 (.pure 9 (.pure 10 (.pure 11 (.pure 12 (.pure 13 (.pure 14 (.alt 15 (.alt 16 (.alt 17 .done .none) .none) .none)))))))))))))))) mixed (by kernel_rfl) ?_
            refine WT.pure (v := vx14) rfl (PO.move hs13_7) rfl ?_
            refine WT.pure (v := v0) rfl (PO.move hs13_0) rfl ?_
            refine WT.pure (v := (.int .i64 x15)) rfl (PO.move hs13_8) rfl ?_
            obtain ⟨hg18, h⟩ := grd_i h
            obtain ⟨p19, cs20, hat21, hrc22, hhas23⟩ := h0.at hg18.1 hg18.2 (by decide)
            obtain rfl := hrc22
            refine WT.pure (v := (.pointer (some p19))) rfl (PO.indexAddr (n := a0.length) Try.underlying22 sz5 rfl rfl hg18.1 hg18.2 hat21) rfl ?_
            refine WT.pure (v := (.int .u8 (rd a0 x15))) rfl (PO.loadM pl5 rfl (IM.has0 hhas23)) rfl ?_
            refine WT.pure (v := v1) rfl (PO.move hs13_1) rfl ?_
            refine WT.pure (v := (.int .i64 x15)) rfl (PO.move hs13_8) rfl ?_
            obtain ⟨hg25, h⟩ := grd_i h
            obtain ⟨p26, cs27, hat28, hrc29, hhas30⟩ := h1.at hg25.1 hg25.2 (by decide)
            obtain rfl := hrc29
            refine WT.pure (v := (.pointer (some p26))) rfl (PO.indexAddr (n := a1.length) Try.underlying22 sz5 rfl rfl hg25.1 hg25.2 hat28) rfl ?_
            refine WT.pure (v := (.int .u8 (rd a1 x15))) rfl (PO.loadM pl5 rfl (IM.has0 hhas30)) rfl ?_
            refine WT.pure (v := (.int .u8 (xorI .u8 (rd a0 x15) (rd a1 x15)))) rfl (PO.xor rfl rfl) rfl ?_
            refine WT.pure (v := v2) rfl (PO.move hs13_2) rfl ?_
            refine WT.pure (v := (.int .i64 x15)) rfl (PO.move hs13_8) rfl ?_
            obtain ⟨hg32, h⟩ := grd_i h
            obtain ⟨p33, cs34, hat35, hrc36, hhas37⟩ := h2.at hg32.1 hg32.2 (by decide)
            obtain rfl := hrc36
            refine WT.pure (v := (.pointer (some p33))) rfl (PO.indexAddr (n := a2.length) Try.underlying22 sz5 rfl rfl hg32.1 hg32.2 hat35) rfl ?_
            refine WT.pure (v := (.int .u8 (rd a2 x15))) rfl (PO.loadM pl5 rfl (IM.has0 hhas37)) rfl ?_
            refine WT.pure (v := (.int .u8 (xorI .u8 (xorI .u8 (rd a0 x15) (rd a1 x15)) (rd a2 x15)))) rfl (PO.xor rfl rfl) rfl ?_
            refine WT.alt rfl (EO.buildSliceL (cl := [(.int .u8 (xorI .u8 (xorI .u8 (rd a0 x15) (rd a1 x15)) (rd a2 x15)))]) Try.underlying22 iz5 rfl (Parts.cons (congrArg Value.cells (show ev _ _ = (.int .u8 (xorI .u8 (xorI .u8 (rd a0 x15) (rd a1 x15)) (rd a2 x15))) from rfl)) Parts.nil) rfl) rfl ?_ ?_
            · rintro _ _ _ - ⟨rfl, g39, rfl, rfl⟩
              have h41 : OwnS (Kd.int .u8) M13 (.slice (some ⟨g39, 0, none⟩) 1 1) [xorI .u8 (xorI .u8 (rd a0 x15) (rd a1 x15)) (rd a2 x15)] [(g39, .cells #[(.int .u8 (xorI .u8 (xorI .u8 (rd a0 x15) (rd a1 x15)) (rd a2 x15)))] 5 (0, 0))] := OwnS.rows (css := [[(.int .u8 (xorI .u8 (xorI .u8 (rd a0 x15) (rd a1 x15)) (rd a2 x15)))]]) (Rows.cons rfl Rows.nil) rfl rfl
              refine ⟨(StabL.anc rfl (StabL.anc rfl (StabL.anc rfl (StabL.anc rfl (StabL.anc rfl (StabL.anc rfl (StabL.anc rfl (StabL.anc rfl (StabL.anc rfl (StabL.anc rfl (StabL.anc rfl (StabL.anc rfl (StabL.anc rfl (StabL.anc rfl (StabL.st (StabA.of rfl (PO.move hs13_7) rfl) trivial))))))))))))))), ?_⟩
              obtain ⟨hg45, h⟩ := grd_i h
              refine WT.f1 ?_
              refine WT.alt rfl (EO.append (dd := (Kd.int .u8)) (xs := x14) (ys := [xorI .u8 (xorI .u8 (rd a0 x15) (rd a1 x15)) (rd a2 x15)]) Try.underlying22 Try.underlying22 in5 rfl (appB (by decide) hg45) (by decide) rfl rfl hx14 (h41.src 1 rfl)) rfl ?_ ?_
              · rintro v44 _ _ - ⟨rfl, c42, rfl, h43⟩
                refine ⟨(StabL.anc rfl (StabL.anc rfl (StabL.anc rfl (StabL.anc rfl (StabL.anc rfl (StabL.anc rfl (StabL.anc rfl (StabL.anc rfl (StabL.anc rfl (StabL.anc rfl (StabL.anc rfl (StabL.anc rfl (StabL.anc rfl (StabL.anc rfl (StabL.anc rfl trivial))))))))))))))), ?_⟩
                refine WT.alt rfl ((PO.assign rfl).eo) rfl ?_ ?_
                · rintro _ _ _ - ⟨rfl, rfl, rfl⟩
                  refine ⟨(StabL.anc rfl (StabL.anc rfl (StabL.anc rfl (StabL.anc rfl (StabL.anc rfl (StabL.anc rfl (StabL.anc rfl (StabL.anc rfl (StabL.anc rfl (StabL.anc rfl (StabL.anc rfl (StabL.anc rfl (StabL.anc rfl (StabL.anc rfl (StabL.anc rfl trivial))))))))))))))), ?_⟩
                  refine WT.fin ?_
                  refine WQ.blockN ?_
                  refine WQ.thenC ?_
                  refine WC.region ?_
                  refine WL.pure (v := (.int .i64 x15)) (PO.move hs13_8) rfl ?_
                  refine WL.pure (v := (.int .i64 (IntKind.i64.wrap (x15 + (1 : Int))))) (PO.add rfl rfl) rfl ?_
                  refine WL.pure (v := (.int .i64 (IntKind.i64.wrap (x15 + (1 : Int))))) (PO.assign rfl) rfl ?_
                  refine WL.nil ?_
                  refine WQ.f1 ?_
                  refine WQ.drop ?_
                  refine WQ.again (x14 ++ [xorI .u8 (xorI .u8 (rd a0 x15) (rd a1 x15)) (rd a2 x15)], IntKind.i64.wrap (x15 + (1 : Int))) (Option.some.inj h).symm ?_
                  exact ⟨v44, c42, hle13, rfl, hs13_0, hs13_1, hs13_2, rfl, rfl, h43⟩
                · exact WT.no
              · exact WT.no
            · exact WT.no
          · have h := ite_f hb17 h
            refine WC.exit ?_
            refine WQ.thenE ?_
            refine WQ.leaveE x14 (Option.some.inj h).symm (fun heq13 => ?_)
            subst heq13
            have h := hK13
            refine WQ.blockH ?_
            obtain rfl := Option.some.inj h
            refine WQ.thenJ ?_
            exact ⟨vx14, cx14, hle13, rfl, hs13_0, hs13_1, hs13_2, hs13_7, hx14⟩
      · rintro ρ12 M12 H12 ⟨vx11, cx11, hle12, rfl, hs12_0, hs12_1, hs12_2, hs12_7, hx11⟩
        have h0 := h0.mono hle12
        have h1 := h1.mono hle12
        have h2 := h2.mono hle12
        obtain ⟨x47, hj48, h⟩ := bnd h
        refine WC.joinF (fun (x47 : Bool) (ρ' : Nat → Value) (M' : IM) (H' : HL) => M12.le M' ∧ F = H' ∧ ρ' 6 = (.bool x47)) x47 ?_ ?_
        · have h348 := h
          have h := hj48
          refine WC.draw [0, 1, 0, 7, 0, 0, 32, 112, 255, 511, 0, 0, 2048, 7168, 15871, 32767, 65535, 131071, 262143, 524287, 1048575] (.pure 0 (.pure 2 (.pure 4 (.pure 5 (.pure 6 (.pure 7 (.pure 10 (.pure 11 (.pure 12 (.pure 13 (.alt 1 (.alt 3 (.alt 8 (.pure 9 (.alt 14 (.pure 15 (.pure 16 (.pure 17 (.alt 18 (.pure 19 (.pure 20 .done)) .none)))) .none)) .none) .none) .none))))))))))) mixed (by kernel_rfl) ?_
          refine WT.pure (v := vx11) rfl (PO.move hs12_7) rfl ?_
          refine WT.pure (v := v0) rfl (PO.move hs12_0) rfl ?_
          refine WT.pure (v := v1) rfl (PO.move hs12_1) rfl ?_
          refine WT.pure (v := v0) rfl (PO.move hs12_0) rfl ?_
          refine WT.pure (v := (.int .i64 (a0.length : Int))) rfl (PO.lenS Try.underlying22 rfl h0.len) rfl ?_
          obtain ⟨hg49, h⟩ := grd_i h
          have h50 := h1.sub hg49.1 hg49.2.1 hg49.2.2
          refine WT.pure (v := (slV v1 1 ((0 : Int)).toNat ((a0.length : Int)).toNat)) rfl (PO.slice (n := a1.length) (l := ((0 : Int)).toNat) (h := ((a0.length : Int)).toNat) Try.underlying22 sz5 rfl h1.len h1.cap (bound0 rfl) ⟨_, _, rfl, (Int.le_trans hg49.1 hg49.2.1), rfl⟩ (Int.toNat_le_toNat hg49.2.1) (toNat_le_len hg49.2.2)) rfl ?_
          refine WT.pure (v := v2) rfl (PO.move hs12_2) rfl ?_
          refine WT.pure (v := v0) rfl (PO.move hs12_0) rfl ?_
          refine WT.pure (v := (.int .i64 (a0.length : Int))) rfl (PO.lenS Try.underlying22 rfl h0.len) rfl ?_
          obtain ⟨hg51, h⟩ := grd_i h
          have h52 := h2.sub hg51.1 hg51.2.1 hg51.2.2
          refine WT.pure (v := (slV v2 1 ((0 : Int)).toNat ((a0.length : Int)).toNat)) rfl (PO.slice (n := a2.length) (l := ((0 : Int)).toNat) (h := ((a0.length : Int)).toNat) Try.underlying22 sz5 rfl h2.len h2.cap (bound0 rfl) ⟨_, _, rfl, (Int.le_trans hg51.1 hg51.2.1), rfl⟩ (Int.toNat_le_toNat hg51.2.1) (toNat_le_len hg51.2.2)) rfl ?_
          obtain ⟨r53, hr54, h⟩ := bnd h
          refine WT.alt rfl (EO.call1 co12 (args1 (show ev _ _ = vx11 from rfl)) (Tri.lend fun w0_ H0_ hs0_ => (f_crc_Sum_ok x11 _ _ (hx11.rs hs0_) r53 hr54))) rfl ?_ ?_
          · rintro _ _ _ hle56 ⟨_, ⟨Ml58, Hl59, hll60, rfl, rfl, ⟨rfl, rfl⟩⟩, rfl⟩
            have h0 := h0.mono hle56
            have h1 := h1.mono hle56
            have h2 := h2.mono hle56
            have hx11 := hx11.mono hle56
            have h50 := h50.mono hle56
            have h52 := h52.mono hle56
            refine ⟨(StabL.st (StabA.of rfl (PO.slice (n := a2.length) (l := ((0 : Int)).toNat) (h := ((a0.length : Int)).toNat) Try.underlying22 sz5 rfl h2.len h2.cap (bound0 rfl) ⟨_, _, rfl, (Int.le_trans hg51.1 hg51.2.1), rfl⟩ (Int.toNat_le_toNat hg51.2.1) (toNat_le_len hg51.2.2)) rfl) (StabL.st (StabA.of rfl (PO.lenS Try.underlying22 rfl h0.len) rfl) (StabL.st (StabA.of rfl (PO.move hs12_0) rfl) (StabL.st (StabA.of rfl (PO.move hs12_2) rfl) (StabL.st (StabA.of rfl (PO.slice (n := a1.length) (l := ((0 : Int)).toNat) (h := ((a0.length : Int)).toNat) Try.underlying22 sz5 rfl h1.len h1.cap (bound0 rfl) ⟨_, _, rfl, (Int.le_trans hg49.1 hg49.2.1), rfl⟩ (Int.toNat_le_toNat hg49.2.1) (toNat_le_len hg49.2.2)) rfl) (StabL.st (StabA.of rfl (PO.lenS Try.underlying22 rfl h0.len) rfl) (StabL.st (StabA.of rfl (PO.move hs12_0) rfl) (StabL.st (StabA.of rfl (PO.move hs12_1) rfl) (StabL.st (StabA.of rfl (PO.move hs12_0) rfl) (StabL.anc rfl trivial)))))))))), ?_⟩
            refine WT.a1 ?_
            obtain ⟨r61, hr62, h⟩ := bnd h
            refine WT.alt rfl (EO.call0 co12 (args1 (show ev _ _ = v0 from rfl)) (f_crc_Sum_ok a0 _ _ h0 r61 hr62)) rfl ?_ ?_
            · rintro _ M63 _ hle64 ⟨_, ⟨rfl, rfl⟩, rfl⟩
              have h0 := h0.mono hle64
              have h1 := h1.mono hle64
              have h2 := h2.mono hle64
              have hx11 := hx11.mono hle64
              have h50 := h50.mono hle64
              have h52 := h52.mono hle64
              refine ⟨(StabL.st (StabA.of rfl (PO.slice (n := a2.length) (l := ((0 : Int)).toNat) (h := ((a0.length : Int)).toNat) Try.underlying22 sz5 rfl h2.len h2.cap (bound0 rfl) ⟨_, _, rfl, (Int.le_trans hg51.1 hg51.2.1), rfl⟩ (Int.toNat_le_toNat hg51.2.1) (toNat_le_len hg51.2.2)) rfl) (StabL.st (StabA.of rfl (PO.lenS Try.underlying22 rfl h0.len) rfl) (StabL.st (StabA.of rfl (PO.move hs12_0) rfl) (StabL.st (StabA.of rfl (PO.move hs12_2) rfl) (StabL.st (StabA.of rfl (PO.slice (n := a1.length) (l := ((0 : Int)).toNat) (h := ((a0.length : Int)).toNat) Try.underlying22 sz5 rfl h1.len h1.cap (bound0 rfl) ⟨_, _, rfl, (Int.le_trans hg49.1 hg49.2.1), rfl⟩ (Int.toNat_le_toNat hg49.2.1) (toNat_le_len hg49.2.2)) rfl) (StabL.st (StabA.of rfl (PO.lenS Try.underlying22 rfl h0.len) rfl) (StabL.st (StabA.of rfl (PO.move hs12_0) rfl) (StabL.st (StabA.of rfl (PO.move hs12_1) rfl) (StabL.anc rfl (StabL.anc rfl trivial)))))))))), ?_⟩
              refine WT.a0 ?_
              obtain ⟨r66, hr67, h⟩ := bnd h
              refine WT.alt rfl (EO.call0 co12 (args1 (show ev _ _ = (slV v1 1 ((0 : Int)).toNat ((a0.length : Int)).toNat) from rfl)) (f_crc_Sum_ok (sub a1 (0 : Int) (a0.length : Int)) _ _ h50 r66 hr67)) rfl ?_ ?_
              · rintro _ M68 _ hle69 ⟨_, ⟨rfl, rfl⟩, rfl⟩
                have h0 := h0.mono hle69
                have h1 := h1.mono hle69
                have h2 := h2.mono hle69
                have hx11 := hx11.mono hle69
                have h50 := h50.mono hle69
                have h52 := h52.mono hle69
                refine ⟨(StabL.st (StabA.of rfl (PO.slice (n := a2.length) (l := ((0 : Int)).toNat) (h := ((a0.length : Int)).toNat) Try.underlying22 sz5 rfl h2.len h2.cap (bound0 rfl) ⟨_, _, rfl, (Int.le_trans hg51.1 hg51.2.1), rfl⟩ (Int.toNat_le_toNat hg51.2.1) (toNat_le_len hg51.2.2)) rfl) (StabL.st (StabA.of rfl (PO.lenS Try.underlying22 rfl h0.len) rfl) (StabL.st (StabA.of rfl (PO.move hs12_0) rfl) (StabL.st (StabA.of rfl (PO.move hs12_2) rfl) (StabL.anc rfl (StabL.anc rfl (StabL.anc rfl (StabL.anc rfl (StabL.anc rfl (StabL.anc rfl trivial)))))))))), ?_⟩
                refine WT.a0 ?_
                refine WT.pure (v := (.int .u32 (xorI .u32 r61 r66))) rfl (PO.xor rfl rfl) rfl ?_
                obtain ⟨r71, hr72, h⟩ := bnd h
                refine WT.alt rfl (EO.call0 co12 (args1 (show ev _ _ = (slV v2 1 ((0 : Int)).toNat ((a0.length : Int)).toNat) from rfl)) (f_crc_Sum_ok (sub a2 (0 : Int) (a0.length : Int)) _ _ h52 r71 hr72)) rfl ?_ ?_
                · rintro _ M73 _ hle74 ⟨_, ⟨rfl, rfl⟩, rfl⟩
                  have h0 := h0.mono hle74
                  have h1 := h1.mono hle74
                  have h2 := h2.mono hle74
                  have hx11 := hx11.mono hle74
                  have h50 := h50.mono hle74
                  have h52 := h52.mono hle74
                  refine ⟨(StabL.st (StabA.of rfl (PO.xor rfl rfl) rfl) (StabL.anc rfl (StabL.anc rfl (StabL.anc rfl (StabL.anc rfl (StabL.anc rfl (StabL.anc rfl (StabL.anc rfl (StabL.anc rfl (StabL.anc rfl (StabL.anc rfl trivial))))))))))), ?_⟩
                  refine WT.a0 ?_
                  refine WT.pure (v := (.int .u32 (xorI .u32 (xorI .u32 r61 r66) r71))) rfl (PO.xor rfl rfl) rfl ?_
                  refine WT.pure (v := (.bool (decide (r53 = (xorI .u32 (xorI .u32 r61 r66) r71))))) rfl (PO.eql rfl rfl) rfl ?_
                  refine WT.pure (v := (.bool (decide (r53 = (xorI .u32 (xorI .u32 r61 r66) r71))))) rfl (PO.move rfl) rfl ?_
                  rcases Bool.eq_false_or_eq_true (decide (r53 = (xorI .u32 (xorI .u32 r61 r66) r71))) with hb76 | hb76
                  · have h := ite_t hb76 h
                    obtain ⟨r77, hr78, h⟩ := bnd h
                    refine WT.altOn 67 rfl rfl rfl hb76 (EO.call0 co11 (args0) (f_law03_works_ok _ r77 hr78)) rfl ?_ ?_
                    · rintro _ M79 _ hle80 ⟨_, ⟨rfl, rfl⟩, rfl⟩
                      have h0 := h0.mono hle80
                      have h1 := h1.mono hle80
                      have h2 := h2.mono hle80
                      have hx11 := hx11.mono hle80
                      have h50 := h50.mono hle80
                      have h52 := h52.mono hle80
                      refine ⟨(StabL.anc rfl (StabL.anc rfl (StabL.anc rfl (StabL.anc rfl (StabL.anc rfl (StabL.anc rfl (StabL.anc rfl (StabL.anc rfl (StabL.anc rfl (StabL.anc rfl (StabL.anc rfl (StabL.anc rfl (StabL.anc rfl (StabL.anc rfl trivial)))))))))))))), ?_⟩
                      refine WT.a0 ?_
                      refine WT.pure (v := (.bool r77)) rfl (PO.pickT rfl hb76 rfl) rfl ?_
                      refine WT.pure (v := (.bool r77)) rfl (PO.assign rfl) rfl ?_
                      refine WT.fin ?_
                      refine WQ.drop ?_
                      obtain rfl := Option.some.inj h
                      refine WQ.thenJ ?_
                      exact ⟨((((hle56.trans hle64).trans hle69).trans hle74).trans hle80), rfl, rfl⟩
                    · exact WT.no
                  · have h := ite_f hb76 h
                    refine WT.altOff 67 rfl rfl rfl hb76 rfl ⟨(StabL.anc rfl (StabL.anc rfl (StabL.anc rfl (StabL.anc rfl (StabL.anc rfl (StabL.anc rfl (StabL.anc rfl (StabL.anc rfl (StabL.anc rfl (StabL.anc rfl (StabL.anc rfl (StabL.anc rfl (StabL.anc rfl (StabL.anc rfl trivial)))))))))))))), ?_⟩ ?_
                    · refine WT.pure (v := (.bool false)) rfl (PO.pickF rfl hb76 rfl) rfl ?_
                      refine WT.pure (v := (.bool false)) rfl (PO.assign rfl) rfl ?_
                      refine WT.fin ?_
                      refine WQ.drop ?_
                      obtain rfl := Option.some.inj h
                      refine WQ.thenJ ?_
                      exact ⟨(((hle56.trans hle64).trans hle69).trans hle74), rfl, rfl⟩
                    · exact WT.no
                · exact WT.no
              · exact WT.no
            · exact WT.no
          · exact WT.no
        · rintro ρ48 M48 H48 ⟨hle48, rfl, hs48_6⟩
          refine WC.ret ?_
          exact WQ.returnsF h [] rfl (results1 rfl hs48_6) ((hle2.trans hle12).trans hle48) ⟨rfl, rfl⟩


end Go.Proofs.Ytmifmgpfjamdkaa.G
