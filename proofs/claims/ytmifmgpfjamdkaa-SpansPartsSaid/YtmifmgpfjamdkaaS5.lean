/- Go functions: what they come to, and that they do. Printed by a program of the session (gen). -/
import Derived.Test.YtmifmgpfjamdkaaSF
import Derived.Test.YtmifmgpfjamdkaaS4
set_option linter.unusedVariables false
set_option linter.unusedSimpArgs false
namespace Go.Proofs.Ytmifmgpfjamdkaa.G
open Go Go.KK

noncomputable def f_law13_SpansParts_l0 (s_ : ((List T_api_Batch) × Int)) : Option (((List T_api_Batch) × Int) ⊕ (List T_api_Batch)) :=
  match s_ with
  | (x55, x56) =>
    (if (decide (x56 < (x55.length : Int))) = true then (grd (0 ≤ x56 ∧ x56 < x55.length) (grd (0 ≤ x56 ∧ x56 < x55.length) (some (Sum.inl (x55.set (x56).toNat (⟨IntKind.i64.wrap (((rd x55 x56).Term) + (1000 : Int)), (rd x55 x56).Base, (rd x55 x56).Records⟩ : T_api_Batch), IntKind.i64.wrap (x56 + (1 : Int))))))) else (some (Sum.inr x55)))
noncomputable def f_law13_SpansParts_l1 (s_ : ((List T_api_Batch) × Int)) : Option (((List T_api_Batch) × Int) ⊕ (List T_api_Batch)) :=
  match s_ with
  | (x78, x79) =>
    (if (decide (x79 < (x78.length : Int))) = true then (grd (0 ≤ x79 ∧ x79 < x78.length) (grd (0 ≤ x79 ∧ x79 < x78.length) (some (Sum.inl (x78.set (x79).toNat (⟨IntKind.i64.wrap (((rd x78 x79).Term) + (500 : Int)), (rd x78 x79).Base, (rd x78 x79).Records⟩ : T_api_Batch), IntKind.i64.wrap (x79 + (1 : Int))))))) else (some (Sum.inr x78)))
noncomputable def f_law13_SpansParts_l2 (x52 : (List T_api_Batch)) (x75 : (List T_api_Batch)) (r98 : (List T_api_Span)) (s_ : ((List T_api_Span) × Int × Int)) : Option (((List T_api_Span) × Int × Int) ⊕ (Int ⊕ Unit)) :=
  match s_ with
  | (x117, x118, x119) =>
    (if (decide (x119 < (200 : Int))) = true then (((if (decide ((0 : Int) < x118)) = true then (grd (0 ≤ IntKind.i64.wrap (x118 - (1 : Int)) ∧ IntKind.i64.wrap (x118 - (1 : Int)) < x52.length) (some ((rd x52 (IntKind.i64.wrap (x118 - (1 : Int)))).Term))) else (some (0 : Int))) : Option Int).bind fun (x122 : Int) => ((f_spans_Parted r98 (x75.length : Int) x122 x118).bind fun (r132, r133, r134) => (((if (!r134) = true then (some true) else (some (decide (x118 = (0 : Int))))) : Option Bool).bind fun (x144 : Bool) => (if x144 = true then (some (Sum.inr (Sum.inl x118))) else ((f_spans_Keep x117 x118 r132 r133).bind fun (r148 : Int) => (if (decide (x118 ≤ r148)) = true then (some (Sum.inr (Sum.inr ()))) else (grd (0 ≤ (0 : Int) ∧ (0 : Int) ≤ r148 ∧ r148 ≤ (x52.length : Int)) ((f_spans_Of (0 : Int) (0 : Int) (sub x52 (0 : Int) r148)).bind fun (r159 : (List T_api_Span)) => (some (Sum.inl (r159, r148, IntKind.i64.wrap (x119 + (1 : Int))))))))))))) else (some (Sum.inr (Sum.inl x118))))
noncomputable def f_law13_SpansParts_l3 (x52 : (List T_api_Batch)) (x75 : (List T_api_Batch)) (x114 : Int) (s_ : Int) : Option (Int ⊕ (Unit ⊕ Unit)) :=
  match s_ with
  | x170 =>
    (if (decide (x170 < x114)) = true then (grd (0 ≤ x170 ∧ x170 < x75.length) (grd (0 ≤ x170 ∧ x170 < x52.length) (if (decide (((rd x75 x170).Term) ≠ ((rd x52 x170).Term))) = true then (some (Sum.inr (Sum.inr ()))) else (some (Sum.inl (IntKind.i64.wrap (x170 + (1 : Int)))))))) else (some (Sum.inr (Sum.inl ()))))
noncomputable def f_law13_SpansParts (a0 : (List Int)) (a1 : (List Int)) (a2 : (List Int)) : Option Bool :=
  (((if (decide ((60 : Int) < (a0.length : Int))) = true then (some true) else (if (decide ((60 : Int) < (a1.length : Int))) = true then (some true) else (some (decide ((60 : Int) < (a2.length : Int)))))) : Option Bool).bind fun (x1 : Bool) => (if x1 = true then ((f_law13_works).bind fun (r6 : Bool) => (some r6)) else ((f_law13_rising a0).bind fun (r11 : (List T_api_Batch)) => (grd (([] : List Int).length + a0.length ≤ 274877906944) (grd ((([] : List Int) ++ a0).length + a1.length ≤ 274877906944) ((f_law13_rising ((([] : List Int) ++ a0) ++ a1)).bind fun (r29 : (List T_api_Batch)) => (grd (([] : List Int).length + a0.length ≤ 274877906944) (grd ((([] : List Int) ++ a0).length + a2.length ≤ 274877906944) ((f_law13_rising ((([] : List Int) ++ a0) ++ a2)).bind fun (r47 : (List T_api_Batch)) => ((((iter (f_law13_SpansParts_l0) (r47, (r11.length : Int))).bind (fun (x57 : (List T_api_Batch)) => (some x57))) : Option (List T_api_Batch)).bind fun (x52 : (List T_api_Batch)) => ((((iter (f_law13_SpansParts_l1) (r29, (r11.length : Int))).bind (fun (x80 : (List T_api_Batch)) => (some x80))) : Option (List T_api_Batch)).bind fun (x75 : (List T_api_Batch)) => ((f_spans_Of (0 : Int) (0 : Int) x75).bind fun (r98 : (List T_api_Span)) => ((f_spans_Of (0 : Int) (0 : Int) x52).bind fun (r106 : (List T_api_Span)) => ((((iter (f_law13_SpansParts_l2 x52 x75 r98) (r106, (x52.length : Int), (0 : Int))).bind (Sum.elim (fun (x120 : Int) => (some (Sum.inl x120))) (fun _ => (((some false)).bind fun r => some (Sum.inr r))))) : Option (Int ⊕ Bool)).bind (Sum.elim (fun (x114 : Int) => (if (decide ((x75.length : Int) < x114)) = true then (some false) else ((((iter (f_law13_SpansParts_l3 x52 x75 x114) (0 : Int)).bind (Sum.elim (fun _ => (some (Sum.inl ()))) (fun _ => (((some false)).bind fun r => some (Sum.inr r))))) : Option (Unit ⊕ Bool)).bind (Sum.elim (fun _ => (((if (decide ((0 : Int) ≤ x114)) = true then ((f_law13_works).bind fun (r190 : Bool) => (some r190)) else (some false)) : Option Bool).bind fun (x187 : Bool) => (some x187))) some)))) some)))))))))))))))
def f_law13_SpansParts_post (a0 : (List Int)) (a1 : (List Int)) (a2 : (List Int)) (v0 v1 v2 : Value) : Bool → Value → IM → HL → Prop :=
  fun (r0 : Bool) (v : Value) (M' : IM) (H' : HL) => (.bool r0) = v ∧ H' = []
set_option maxHeartbeats 1000000 in
set_option maxRecDepth 100000 in
theorem f_law13_SpansParts_ok (a0 : (List Int)) (a1 : (List Int)) (a2 : (List Int)) (M : IM) (v0 v1 v2 : Value) (h0 : RS (Kd.int .u8) M v0 a0) (h1 : RS (Kd.int .u8) M v1 a1) (h2 : RS (Kd.int .u8) M v2 a2) (res : Bool) (h : f_law13_SpansParts a0 a1 a2 = some res) :
    Tri Try.prog 10 #[v0, v1, v2] M [] (f_law13_SpansParts_post a0 a1 a2 v0 v1 v2 res) := by
  unfold f_law13_SpansParts at h
  refine Tri.enter (fn := Try.f10) Try.func10 rfl (Nat.le_of_ble_eq_true rfl) ?_
  intro F ρ hρ
  refine WC.seq ?_
  refine WC.region ?_
  refine WL.pure (v := (.bool false)) (PO.assign rfl) rfl ?_
  refine WL.nil ?_
  refine WQ.thenC ?_
  refine WC.seq ?_
  obtain ⟨x1, hj2, h⟩ := bnd h
  refine WC.joinF (fun (x1 : Bool) (ρ' : Nat → Value) (M' : IM) (H' : HL) => M.le M' ∧ F = H' ∧ ρ' 0 = v0 ∧ ρ' 1 = v1 ∧ ρ' 2 = v2 ∧ ρ' 34 = (.bool x1)) x1 ?_ ?_
  · have h32 := h
    have h := hj2
    refine WC.region ?_
    refine WL.pure (v := v0) (PO.move (hρ 0)) rfl ?_
    refine WL.pure (v := (.int .i64 (a0.length : Int))) (PO.lenS Try.underlying22 rfl h0.len) rfl ?_
    refine WL.pure (v := (.bool (decide ((60 : Int) < (a0.length : Int))))) (PO.gtr rfl rfl) rfl ?_
    refine WL.pure (v := (.bool (decide ((60 : Int) < (a0.length : Int))))) (PO.move rfl) rfl ?_
    rcases Bool.eq_false_or_eq_true (decide ((60 : Int) < (a0.length : Int))) with hb3 | hb3
    · have h := ite_t hb3 h
      refine WL.off 25 rfl rfl hb3 rfl ?_
      refine WL.off 25 rfl rfl hb3 rfl ?_
      refine WL.off 25 rfl rfl hb3 rfl ?_
      refine WL.pure (v := (.bool true)) (PO.pickT rfl hb3 rfl) rfl ?_
      refine WL.pure (v := (.bool true)) (PO.move rfl) rfl ?_
      refine WL.off 30 rfl rfl rfl rfl ?_
      refine WL.off 30 rfl rfl rfl rfl ?_
      refine WL.off 30 rfl rfl rfl rfl ?_
      refine WL.pure (v := (.bool true)) (PO.pickT rfl rfl rfl) rfl ?_
      refine WL.nil ?_
      obtain rfl := Option.some.inj h
      refine WQ.thenJ ?_
      exact ⟨(IM.le.refl _), rfl, (hρ 0), (hρ 1), (hρ 2), rfl⟩
    · have h := ite_f hb3 h
      refine WL.on 25 rfl rfl hb3 ?_
      refine WL.pure (v := v1) (PO.move (hρ 1)) rfl ?_
      refine WL.on 25 rfl rfl hb3 ?_
      refine WL.pure (v := (.int .i64 (a1.length : Int))) (PO.lenS Try.underlying22 rfl h1.len) rfl ?_
      refine WL.on 25 rfl rfl hb3 ?_
      refine WL.pure (v := (.bool (decide ((60 : Int) < (a1.length : Int))))) (PO.gtr rfl rfl) rfl ?_
      refine WL.pure (v := (.bool (decide ((60 : Int) < (a1.length : Int))))) (PO.pickF rfl hb3 rfl) rfl ?_
      refine WL.pure (v := (.bool (decide ((60 : Int) < (a1.length : Int))))) (PO.move rfl) rfl ?_
      rcases Bool.eq_false_or_eq_true (decide ((60 : Int) < (a1.length : Int))) with hb4 | hb4
      · have h := ite_t hb4 h
        refine WL.off 30 rfl rfl hb4 rfl ?_
        refine WL.off 30 rfl rfl hb4 rfl ?_
        refine WL.off 30 rfl rfl hb4 rfl ?_
        refine WL.pure (v := (.bool true)) (PO.pickT rfl hb4 rfl) rfl ?_
        refine WL.nil ?_
        obtain rfl := Option.some.inj h
        refine WQ.thenJ ?_
        exact ⟨(IM.le.refl _), rfl, (hρ 0), (hρ 1), (hρ 2), rfl⟩
      · have h := ite_f hb4 h
        refine WL.on 30 rfl rfl hb4 ?_
        refine WL.pure (v := v2) (PO.move (hρ 2)) rfl ?_
        refine WL.on 30 rfl rfl hb4 ?_
        refine WL.pure (v := (.int .i64 (a2.length : Int))) (PO.lenS Try.underlying22 rfl h2.len) rfl ?_
        refine WL.on 30 rfl rfl hb4 ?_
        refine WL.pure (v := (.bool (decide ((60 : Int) < (a2.length : Int))))) (PO.gtr rfl rfl) rfl ?_
        refine WL.pure (v := (.bool (decide ((60 : Int) < (a2.length : Int))))) (PO.pickF rfl hb4 rfl) rfl ?_
        refine WL.nil ?_
        obtain rfl := Option.some.inj h
        refine WQ.thenJ ?_
        exact ⟨(IM.le.refl _), rfl, (hρ 0), (hρ 1), (hρ 2), rfl⟩
  · rintro ρ2 M2 H2 ⟨hle2, rfl, hs2_0, hs2_1, hs2_2, hs2_34⟩
    have h0 := h0.mono hle2
    have h1 := h1.mono hle2
    have h2 := h2.mono hle2
    refine WC.cond (b := x1) hs2_34 (fun hb5 => ?_) (fun hb5 => ?_)
    · have h := ite_t hb5 h
      refine WC.seq ?_
      refine WC.region ?_
      obtain ⟨r6, hr7, h⟩ := bnd h
      refine WL.eff (EO.call0 co21 (args0) (f_law13_works_ok _ r6 hr7)) rfl ?_
      rintro _ M8 _ hle9 ⟨_, ⟨rfl, rfl⟩, rfl⟩
      have h0 := h0.mono hle9
      have h1 := h1.mono hle9
      have h2 := h2.mono hle9
      refine WL.a0 ?_
      refine WL.pure (v := (.bool r6)) (PO.assign rfl) rfl ?_
      refine WL.nil ?_
      refine WQ.thenC ?_
      refine WC.ret ?_
      refine WQ.thenR ?_
      exact WQ.returnsF h [] rfl (results1 rfl rfl) (hle2.trans hle9) ⟨rfl, rfl⟩
    · have h := ite_f hb5 h
      refine WC.skip ?_
      refine WQ.thenC ?_
      refine WC.seq ?_
      refine WC.region ?_
      refine WL.pure (v := v0) (PO.move hs2_0) rfl ?_
      obtain ⟨r11, hr12, h⟩ := bnd h
      refine WL.eff (EO.call0 co28 (args1 (show ev _ _ = v0 from rfl)) (f_law13_rising_ok a0 _ _ h0 r11 hr12)) rfl ?_
      rintro _ M13 _ hle14 ⟨_, ⟨vq15, cq15, rfl, rfl, hq15⟩, rfl⟩
      have h0 := h0.mono hle14
      have h1 := h1.mono hle14
      have h2 := h2.mono hle14
      refine WL.a1 ?_
      refine WL.pure (v := vq15) (PO.assign rfl) rfl ?_
      refine WL.nil ?_
      refine WQ.thenC ?_
      refine WC.seq ?_
      refine WC.region ?_
      refine WL.eff (EO.buildSliceL (cl := []) Try.underlying22 iz5 rfl Parts.nil rfl) rfl ?_
      rintro _ _ _ - ⟨rfl, g16, rfl, rfl⟩
      have h18 : OwnS (Kd.int .u8) M13 (.slice (some ⟨g16, 0, none⟩) 0 0) [] [(g16, .cells #[] 5 (0, 0))] := OwnS.rows (css := []) Rows.nil rfl rfl
      refine WL.pure (v := v0) (PO.move hs2_0) rfl ?_
      obtain ⟨hg22, h⟩ := grd_i h
      refine WL.eff (EO.append (dd := (Kd.int .u8)) (xs := []) (ys := a0) Try.underlying22 Try.underlying22 in5 rfl (appB (by decide) hg22) (by decide) rfl rfl h18 (h0.src _)) rfl ?_
      rintro v21 _ _ - ⟨rfl, c19, rfl, h20⟩
      refine WL.pure (v := v1) (PO.move hs2_1) rfl ?_
      obtain ⟨hg26, h⟩ := grd_i h
      refine WL.eff (EO.append (dd := (Kd.int .u8)) (xs := ([] : List Int) ++ a0) (ys := a1) Try.underlying22 Try.underlying22 in5 rfl (appB (by decide) hg26) (by decide) rfl rfl h20 (h1.src _)) rfl ?_
      rintro v25 _ _ - ⟨rfl, c23, rfl, h24⟩
      refine WL.know (fun _ hs => h24.rs hs) (fun hf28 => ?_)
      refine WL.freeze (fun hle27 => ?_)
      have h0 := h0.mono hle27
      have h1 := h1.mono hle27
      have h2 := h2.mono hle27
      have hq15 := hq15.mono hle27
      obtain ⟨r29, hr30, h⟩ := bnd h
      refine WL.eff (EO.call0 co28 (args1 (show ev _ _ = v25 from rfl)) (f_law13_rising_ok ((([] : List Int) ++ a0) ++ a1) _ _ hf28 r29 hr30)) rfl ?_
      rintro _ M31 _ hle32 ⟨_, ⟨vq33, cq33, rfl, rfl, hq33⟩, rfl⟩
      have h0 := h0.mono hle32
      have h1 := h1.mono hle32
      have h2 := h2.mono hle32
      have hq15 := hq15.mono hle32
      have hf28 := hf28.mono hle32
      refine WL.a1 ?_
      refine WL.pure (v := vq33) (PO.assign rfl) rfl ?_
      refine WL.nil ?_
      refine WQ.thenC ?_
      refine WC.seq ?_
      refine WC.region ?_
      refine WL.eff (EO.buildSliceL (cl := []) Try.underlying22 iz5 rfl Parts.nil rfl) rfl ?_
      rintro _ _ _ - ⟨rfl, g34, rfl, rfl⟩
      have h36 : OwnS (Kd.int .u8) M31 (.slice (some ⟨g34, 0, none⟩) 0 0) [] [(g34, .cells #[] 5 (0, 0))] := OwnS.rows (css := []) Rows.nil rfl rfl
      refine WL.pure (v := v0) (PO.move hs2_0) rfl ?_
      obtain ⟨hg40, h⟩ := grd_i h
      refine WL.eff (EO.append (dd := (Kd.int .u8)) (xs := []) (ys := a0) Try.underlying22 Try.underlying22 in5 rfl (appB (by decide) hg40) (by decide) rfl rfl h36 (h0.src _)) rfl ?_
      rintro v39 _ _ - ⟨rfl, c37, rfl, h38⟩
      refine WL.pure (v := v2) (PO.move hs2_2) rfl ?_
      obtain ⟨hg44, h⟩ := grd_i h
      refine WL.eff (EO.append (dd := (Kd.int .u8)) (xs := ([] : List Int) ++ a0) (ys := a2) Try.underlying22 Try.underlying22 in5 rfl (appB (by decide) hg44) (by decide) rfl rfl h38 (h2.src _)) rfl ?_
      rintro v43 _ _ - ⟨rfl, c41, rfl, h42⟩
      refine WL.know (fun _ hs => h42.rs hs) (fun hf46 => ?_)
      refine WL.freeze (fun hle45 => ?_)
      have h0 := h0.mono hle45
      have h2 := h2.mono hle45
      have hq15 := hq15.mono hle45
      have hq33 := hq33.mono hle45
      obtain ⟨r47, hr48, h⟩ := bnd h
      refine WL.eff (EO.call0 co28 (args1 (show ev _ _ = v43 from rfl)) (f_law13_rising_ok ((([] : List Int) ++ a0) ++ a2) _ _ hf46 r47 hr48)) rfl ?_
      rintro _ M49 _ hle50 ⟨_, ⟨vq51, cq51, rfl, rfl, hq51⟩, rfl⟩
      have h0 := h0.mono hle50
      have h2 := h2.mono hle50
      have hq15 := hq15.mono hle50
      have hq33 := hq33.mono hle50
      have hf46 := hf46.mono hle50
      refine WL.a1 ?_
      refine WL.pure (v := vq51) (PO.assign rfl) rfl ?_
      refine WL.nil ?_
      refine WQ.thenC ?_
      obtain ⟨x52, hj53, h⟩ := bnd h
      refine WC.joinF (fun (x52 : (List T_api_Batch)) (ρ' : Nat → Value) (M' : IM) (H' : HL) => ∃ vx52 cx52, M49.le M' ∧ cq15 :: cq33 :: cx52 :: F = H' ∧ ρ' 7 = vq15 ∧ ρ' 8 = vq33 ∧ ρ' 9 = vx52 ∧ OwnS kd_api_Batch M' vx52 x52 cx52) x52 ?_ ?_
      · have h353 := h
        have h := hj53
        refine WC.seq ?_
        refine WC.region ?_
        refine WL.pure (v := vq15) (PO.move rfl) rfl ?_
        refine WL.pure (v := (.int .i64 (r11.length : Int))) (PO.lenS Try.underlying43 rfl hq15.len) rfl ?_
        refine WL.pure (v := (.int .i64 (r11.length : Int))) (PO.assign rfl) rfl ?_
        refine WL.nil ?_
        refine WQ.thenC ?_
        refine WC.block ?_
        refine WC.f1 ?_
        refine WC.f2 ?_
        obtain ⟨e54, he54, hK54⟩ := bnd h
        clear h
        refine WC.loop he54 (fun (p_ : ((List T_api_Batch) × Int)) (ρ' : Nat → Value) (M' : IM) (H' : HL) => match p_ with | (x55, x56) => ∃ vx55 cx55, M49.le M' ∧ cq15 :: cq33 :: cx55 :: F = H' ∧ ρ' 7 = vq15 ∧ ρ' 8 = vq33 ∧ ρ' 9 = vx55 ∧ ρ' 10 = (.int .i64 x56) ∧ OwnS kd_api_Batch M' vx55 x55 cx55) ?_ ?_
        · exact ⟨vq51, cq51, (IM.le.refl _), rfl, rfl, rfl, rfl, rfl, hq51⟩
        · rintro ⟨x55, x56⟩ o54 ρ54 M54 H54 h ⟨vx55, cx55, hle54, rfl, hs54_7, hs54_8, hs54_9, hs54_10, hx55⟩
          unfold f_law13_SpansParts_l0 at h
          have hq15 := hq15.mono hle54
          have hq33 := hq33.mono hle54
          refine WC.seq ?_
          refine WC.seq ?_
          refine WC.region ?_
          refine WL.pure (v := (.int .i64 x56)) (PO.move hs54_10) rfl ?_
          refine WL.pure (v := vx55) (PO.move hs54_9) rfl ?_
          refine WL.pure (v := (.int .i64 (x55.length : Int))) (PO.lenS Try.underlying43 rfl hx55.len) rfl ?_
          refine WL.pure (v := (.bool (decide (x56 < (x55.length : Int))))) (PO.lss rfl rfl) rfl ?_
          refine WL.nil ?_
          refine WQ.thenC ?_
          refine WC.cond (b := decide (x56 < (x55.length : Int))) rfl (fun hb58 => ?_) (fun hb58 => ?_)
          · have h := ite_t hb58 h
            refine WC.skip ?_
            refine WQ.thenC ?_
            refine WC.seq ?_
            refine WC.block ?_
            refine WC.region ?_
            refine WL.pure (v := vx55) (PO.move hs54_9) rfl ?_
            refine WL.pure (v := (.int .i64 x56)) (PO.move hs54_10) rfl ?_
            refine WL.pure (v := vx55) (PO.move hs54_9) rfl ?_
            refine WL.pure (v := (.int .i64 x56)) (PO.move hs54_10) rfl ?_
            obtain ⟨hg59, h⟩ := grd_i h
            obtain ⟨p60, cs61, hat62, hrc63, hhas64⟩ := hx55.at hg59.1 hg59.2
            obtain ⟨vw65_2, rfl, hw65_2⟩ := kd_api_Batch_open hrc63
            refine WL.pure (v := (.pointer (some p60))) (PO.indexAddr (n := x55.length) Try.underlying43 sz53 rfl rfl hg59.1 hg59.2 hat62) rfl ?_
            refine WL.pure (v := (.pointer (some (p60.add 0)))) (PO.fieldAddr fo53_0 rfl rfl) rfl ?_
            refine WL.pure (v := (.int .i64 ((rd x55 x56).Term))) (PO.loadC 2 pl3 rfl rfl (chunkHas0 hhas64)) rfl ?_
            refine WL.pure (v := (.int .i64 (IntKind.i64.wrap (((rd x55 x56).Term) + (1000 : Int))))) (PO.add rfl rfl) rfl ?_
            obtain ⟨hg66, h⟩ := grd_i h
            obtain ⟨p67, cs68, hat69, hrc70, hhas71⟩ := hx55.at hg66.1 hg66.2
            obtain ⟨vw72_2, rfl, hw72_2⟩ := kd_api_Batch_open hrc70
            refine WL.pure (v := (.pointer (some p67))) (PO.indexAddr (n := x55.length) Try.underlying43 sz53 rfl rfl hg66.1 hg66.2 hat69) rfl ?_
            refine WL.pure (v := (.pointer (some (p67.add 0)))) (PO.fieldAddr fo53_0 rfl rfl) rfl ?_
            refine WL.f2 ?_
            refine WL.eff (EO.storeOwnF (dd := kd_api_Batch) (k := 0) (a := (⟨IntKind.i64.wrap (((rd x55 x56).Term) + (1000 : Int)), (rd x55 x56).Base, (rd x55 x56).Records⟩ : T_api_Batch)) sz3 (Eq.trans (b := .pointer (some p67)) rfl (ptr0 p67)) hat69 rfl hg66.1 hg66.2 (by decide) rfl rfl hx55 (fun cs_ hcs_ => by obtain ⟨vq__2, rfl, hq__2⟩ := kd_api_Batch_open hcs_; exact kd_api_Batch_mk (x := (⟨IntKind.i64.wrap (((rd x55 x56).Term) + (1000 : Int)), (rd x55 x56).Base, (rd x55 x56).Records⟩ : T_api_Batch)) hq__2)) rfl ?_
            rintro _ _ _ - ⟨rfl, c73, rfl, h74⟩
            refine WL.nil ?_
            refine WQ.blockN ?_
            refine WQ.thenC ?_
            refine WC.region ?_
            refine WL.pure (v := (.int .i64 x56)) (PO.move hs54_10) rfl ?_
            refine WL.pure (v := (.int .i64 (IntKind.i64.wrap (x56 + (1 : Int))))) (PO.add rfl rfl) rfl ?_
            refine WL.pure (v := (.int .i64 (IntKind.i64.wrap (x56 + (1 : Int))))) (PO.assign rfl) rfl ?_
            refine WL.nil ?_
            refine WQ.f2 ?_
            refine WQ.f2 ?_
            refine WQ.again (x55.set (x56).toNat (⟨IntKind.i64.wrap (((rd x55 x56).Term) + (1000 : Int)), (rd x55 x56).Base, (rd x55 x56).Records⟩ : T_api_Batch), IntKind.i64.wrap (x56 + (1 : Int))) (Option.some.inj h).symm ?_
            exact ⟨vx55, c73, hle54, rfl, hs54_7, hs54_8, hs54_9, rfl, h74⟩
          · have h := ite_f hb58 h
            refine WC.exit ?_
            refine WQ.thenE ?_
            refine WQ.leaveE x55 (Option.some.inj h).symm (fun heq54 => ?_)
            subst heq54
            have h := hK54
            refine WQ.blockH ?_
            obtain rfl := Option.some.inj h
            refine WQ.thenJ ?_
            exact ⟨vx55, cx55, hle54, rfl, hs54_7, hs54_8, hs54_9, hx55⟩
      · rintro ρ53 M53 H53 ⟨vx52, cx52, hle53, rfl, hs53_7, hs53_8, hs53_9, hx52⟩
        have hq15 := hq15.mono hle53
        have hq33 := hq33.mono hle53
        obtain ⟨x75, hj76, h⟩ := bnd h
        refine WC.joinF (fun (x75 : (List T_api_Batch)) (ρ' : Nat → Value) (M' : IM) (H' : HL) => ∃ vx75 cx75, M53.le M' ∧ cx75 :: cx52 :: F = H' ∧ ρ' 8 = vx75 ∧ ρ' 9 = vx52 ∧ OwnS kd_api_Batch M' vx75 x75 cx75) x75 ?_ ?_
        · have h376 := h
          have h := hj76
          refine WC.seq ?_
          refine WC.region ?_
          refine WL.pure (v := vq15) (PO.move hs53_7) rfl ?_
          refine WL.pure (v := (.int .i64 (r11.length : Int))) (PO.lenS Try.underlying43 rfl hq15.len) rfl ?_
          refine WL.pure (v := (.int .i64 (r11.length : Int))) (PO.assign rfl) rfl ?_
          refine WL.nil ?_
          refine WQ.thenC ?_
          refine WC.block ?_
          refine WC.drop ?_
          obtain ⟨e77, he77, hK77⟩ := bnd h
          clear h
          refine WC.loop he77 (fun (p_ : ((List T_api_Batch) × Int)) (ρ' : Nat → Value) (M' : IM) (H' : HL) => match p_ with | (x78, x79) => ∃ vx78 cx78, M53.le M' ∧ cx78 :: cx52 :: F = H' ∧ ρ' 8 = vx78 ∧ ρ' 9 = vx52 ∧ ρ' 11 = (.int .i64 x79) ∧ OwnS kd_api_Batch M' vx78 x78 cx78) ?_ ?_
          · exact ⟨vq33, cq33, (IM.le.refl _), rfl, hs53_8, hs53_9, rfl, hq33⟩
          · rintro ⟨x78, x79⟩ o77 ρ77 M77 H77 h ⟨vx78, cx78, hle77, rfl, hs77_8, hs77_9, hs77_11, hx78⟩
            unfold f_law13_SpansParts_l1 at h
            have hx52 := hx52.mono hle77
            refine WC.seq ?_
            refine WC.seq ?_
            refine WC.region ?_
            refine WL.pure (v := (.int .i64 x79)) (PO.move hs77_11) rfl ?_
            refine WL.pure (v := vx78) (PO.move hs77_8) rfl ?_
            refine WL.pure (v := (.int .i64 (x78.length : Int))) (PO.lenS Try.underlying43 rfl hx78.len) rfl ?_
            refine WL.pure (v := (.bool (decide (x79 < (x78.length : Int))))) (PO.lss rfl rfl) rfl ?_
            refine WL.nil ?_
            refine WQ.thenC ?_
            refine WC.cond (b := decide (x79 < (x78.length : Int))) rfl (fun hb81 => ?_) (fun hb81 => ?_)
            · have h := ite_t hb81 h
              refine WC.skip ?_
              refine WQ.thenC ?_
              refine WC.seq ?_
              refine WC.block ?_
              refine WC.region ?_
              refine WL.pure (v := vx78) (PO.move hs77_8) rfl ?_
              refine WL.pure (v := (.int .i64 x79)) (PO.move hs77_11) rfl ?_
              refine WL.pure (v := vx78) (PO.move hs77_8) rfl ?_
              refine WL.pure (v := (.int .i64 x79)) (PO.move hs77_11) rfl ?_
              obtain ⟨hg82, h⟩ := grd_i h
              obtain ⟨p83, cs84, hat85, hrc86, hhas87⟩ := hx78.at hg82.1 hg82.2
              obtain ⟨vw88_2, rfl, hw88_2⟩ := kd_api_Batch_open hrc86
              refine WL.pure (v := (.pointer (some p83))) (PO.indexAddr (n := x78.length) Try.underlying43 sz53 rfl rfl hg82.1 hg82.2 hat85) rfl ?_
              refine WL.pure (v := (.pointer (some (p83.add 0)))) (PO.fieldAddr fo53_0 rfl rfl) rfl ?_
              refine WL.pure (v := (.int .i64 ((rd x78 x79).Term))) (PO.loadC 0 pl3 rfl rfl (chunkHas0 hhas87)) rfl ?_
              refine WL.pure (v := (.int .i64 (IntKind.i64.wrap (((rd x78 x79).Term) + (500 : Int))))) (PO.add rfl rfl) rfl ?_
              obtain ⟨hg89, h⟩ := grd_i h
              obtain ⟨p90, cs91, hat92, hrc93, hhas94⟩ := hx78.at hg89.1 hg89.2
              obtain ⟨vw95_2, rfl, hw95_2⟩ := kd_api_Batch_open hrc93
              refine WL.pure (v := (.pointer (some p90))) (PO.indexAddr (n := x78.length) Try.underlying43 sz53 rfl rfl hg89.1 hg89.2 hat92) rfl ?_
              refine WL.pure (v := (.pointer (some (p90.add 0)))) (PO.fieldAddr fo53_0 rfl rfl) rfl ?_
              refine WL.eff (EO.storeOwnF (dd := kd_api_Batch) (k := 0) (a := (⟨IntKind.i64.wrap (((rd x78 x79).Term) + (500 : Int)), (rd x78 x79).Base, (rd x78 x79).Records⟩ : T_api_Batch)) sz3 (Eq.trans (b := .pointer (some p90)) rfl (ptr0 p90)) hat92 rfl hg89.1 hg89.2 (by decide) rfl rfl hx78 (fun cs_ hcs_ => by obtain ⟨vq__2, rfl, hq__2⟩ := kd_api_Batch_open hcs_; exact kd_api_Batch_mk (x := (⟨IntKind.i64.wrap (((rd x78 x79).Term) + (500 : Int)), (rd x78 x79).Base, (rd x78 x79).Records⟩ : T_api_Batch)) hq__2)) rfl ?_
              rintro _ _ _ - ⟨rfl, c96, rfl, h97⟩
              refine WL.nil ?_
              refine WQ.blockN ?_
              refine WQ.thenC ?_
              refine WC.region ?_
              refine WL.pure (v := (.int .i64 x79)) (PO.move hs77_11) rfl ?_
              refine WL.pure (v := (.int .i64 (IntKind.i64.wrap (x79 + (1 : Int))))) (PO.add rfl rfl) rfl ?_
              refine WL.pure (v := (.int .i64 (IntKind.i64.wrap (x79 + (1 : Int))))) (PO.assign rfl) rfl ?_
              refine WL.nil ?_
              refine WQ.again (x78.set (x79).toNat (⟨IntKind.i64.wrap (((rd x78 x79).Term) + (500 : Int)), (rd x78 x79).Base, (rd x78 x79).Records⟩ : T_api_Batch), IntKind.i64.wrap (x79 + (1 : Int))) (Option.some.inj h).symm ?_
              exact ⟨vx78, c96, hle77, rfl, hs77_8, hs77_9, rfl, h97⟩
            · have h := ite_f hb81 h
              refine WC.exit ?_
              refine WQ.thenE ?_
              refine WQ.leaveE x78 (Option.some.inj h).symm (fun heq77 => ?_)
              subst heq77
              have h := hK77
              refine WQ.blockH ?_
              obtain rfl := Option.some.inj h
              refine WQ.thenJ ?_
              exact ⟨vx78, cx78, hle77, rfl, hs77_8, hs77_9, hx78⟩
        · rintro ρ76 M76 H76 ⟨vx75, cx75, hle76, rfl, hs76_8, hs76_9, hx75⟩
          have hx52 := hx52.mono hle76
          refine WC.seq ?_
          refine WC.region ?_
          refine WL.pure (v := vx75) (PO.move hs76_8) rfl ?_
          obtain ⟨r98, hr99, h⟩ := bnd h
          refine WL.eff (EO.call1 co29 (args3 (show ev _ _ = (.int .i64 (0 : Int)) from rfl) (show ev _ _ = (.int .i64 (0 : Int)) from rfl) (show ev _ _ = vx75 from rfl)) (Tri.lend fun w0_ H0_ hs0_ => (f_spans_Of_ok (0 : Int) (0 : Int) x75 _ _ (hx75.rs hs0_) r98 hr99))) rfl ?_
          rintro _ _ _ hle101 ⟨_, ⟨Ml103, Hl104, hll105, rfl, rfl, ⟨vq102, cq102, rfl, rfl, hq102⟩⟩, rfl⟩
          have hx75 := hx75.mono hle101
          have hx52 := hx52.mono hle101
          have hq102 : OwnS kd_api_Span (Ml103.minus cx75) vq102 r98 cq102 := hq102.any kd_api_Span_flat
          refine WL.a2 ?_
          refine WL.pure (v := vx52) (PO.move hs76_9) rfl ?_
          obtain ⟨r106, hr107, h⟩ := bnd h
          refine WL.f2 ?_
          refine WL.eff (EO.call1 co29 (args3 (show ev _ _ = (.int .i64 (0 : Int)) from rfl) (show ev _ _ = (.int .i64 (0 : Int)) from rfl) (show ev _ _ = vx52 from rfl)) (Tri.lend fun w0_ H0_ hs0_ => (f_spans_Of_ok (0 : Int) (0 : Int) x52 _ _ (hx52.rs hs0_) r106 hr107))) rfl ?_
          rintro _ _ _ hle109 ⟨_, ⟨Ml111, Hl112, hll113, rfl, rfl, ⟨vq110, cq110, rfl, rfl, hq110⟩⟩, rfl⟩
          have hx75 := hx75.mono hle109
          have hx52 := hx52.mono hle109
          have hq102 := hq102.mono hle109
          have hq110 : OwnS kd_api_Span (Ml111.minus cx52) vq110 r106 cq110 := hq110.any kd_api_Span_flat
          refine WL.a2 ?_
          refine WL.pure (v := vq102) (PO.assign rfl) rfl ?_
          refine WL.pure (v := vq110) (PO.assign rfl) rfl ?_
          refine WL.nil ?_
          refine WQ.thenC ?_
          refine WC.seq ?_
          refine WC.region ?_
          refine WL.pure (v := vx52) (PO.move hs76_9) rfl ?_
          refine WL.pure (v := (.int .i64 (x52.length : Int))) (PO.lenS Try.underlying43 rfl hx52.len) rfl ?_
          refine WL.pure (v := (.int .i64 (x52.length : Int))) (PO.assign rfl) rfl ?_
          refine WL.nil ?_
          refine WQ.thenC ?_
          obtain ⟨j115, hj115, h⟩ := bnd h
          refine WC.joinE (fun (x114 : Int) (ρ' : Nat → Value) (M' : IM) (H' : HL) => (Ml111.minus cx52).le M' ∧ cx75 :: cx52 :: F = H' ∧ ρ' 8 = vx75 ∧ ρ' 9 = vx52 ∧ ρ' 14 = (.int .i64 x114)) j115 ?_ ?_
          · have h3115 := h
            have h := hj115
            refine WC.seq ?_
            refine WC.region ?_
            refine WL.pure (v := (.int .i64 (0 : Int))) (PO.assign rfl) rfl ?_
            refine WL.nil ?_
            refine WQ.thenC ?_
            refine WC.block ?_
            refine WC.f1 ?_
            refine WC.f3 ?_
            refine WC.f2 ?_
            refine WC.f3 ?_
            obtain ⟨e116, he116, hK116⟩ := bnd h
            clear h
            refine WC.loop he116 (fun (p_ : ((List T_api_Span) × Int × Int)) (ρ' : Nat → Value) (M' : IM) (H' : HL) => match p_ with | (x117, x118, x119) => ∃ vx117 cx117, (Ml111.minus cx52).le M' ∧ cx75 :: cx52 :: cq102 :: cx117 :: F = H' ∧ ρ' 8 = vx75 ∧ ρ' 9 = vx52 ∧ ρ' 12 = vq102 ∧ ρ' 13 = vx117 ∧ ρ' 14 = (.int .i64 x118) ∧ ρ' 15 = (.int .i64 x119) ∧ OwnS kd_api_Span M' vx117 x117 cx117) ?_ ?_
            · exact ⟨vq110, cq110, (IM.le.refl _), rfl, hs76_8, hs76_9, rfl, rfl, rfl, rfl, hq110⟩
            · rintro ⟨x117, x118, x119⟩ o116 ρ116 M116 H116 h ⟨vx117, cx117, hle116, rfl, hs116_8, hs116_9, hs116_12, hs116_13, hs116_14, hs116_15, hx117⟩
              unfold f_law13_SpansParts_l2 at h
              have hx75 := hx75.mono hle116
              have hx52 := hx52.mono hle116
              have hq102 := hq102.mono hle116
              refine WC.seq ?_
              refine WC.seq ?_
              refine WC.region ?_
              refine WL.pure (v := (.int .i64 x119)) (PO.move hs116_15) rfl ?_
              refine WL.pure (v := (.bool (decide (x119 < (200 : Int))))) (PO.lss rfl rfl) rfl ?_
              refine WL.nil ?_
              refine WQ.thenC ?_
              refine WC.cond (b := decide (x119 < (200 : Int))) rfl (fun hb121 => ?_) (fun hb121 => ?_)
              · have h := ite_t hb121 h
                refine WC.skip ?_
                refine WQ.thenC ?_
                refine WC.seq ?_
                refine WC.block ?_
                refine WC.seq ?_
                refine WC.region ?_
                refine WL.pure (v := (.int .i64 (0 : Int))) (PO.assign rfl) rfl ?_
                refine WL.nil ?_
                refine WQ.thenC ?_
                obtain ⟨x122, hj123, h⟩ := bnd h
                refine WC.joinF (fun (x122 : Int) (ρ' : Nat → Value) (M' : IM) (H' : HL) => M116.le M' ∧ cx75 :: cx52 :: cq102 :: cx117 :: F = H' ∧ ρ' 8 = vx75 ∧ ρ' 9 = vx52 ∧ ρ' 12 = vq102 ∧ ρ' 13 = vx117 ∧ ρ' 14 = (.int .i64 x118) ∧ ρ' 15 = (.int .i64 x119) ∧ ρ' 16 = (.int .i64 x122)) x122 ?_ ?_
                · have h3123 := h
                  have h := hj123
                  refine WC.seq ?_
                  refine WC.region ?_
                  refine WL.pure (v := (.int .i64 x118)) (PO.move hs116_14) rfl ?_
                  refine WL.pure (v := (.bool (decide ((0 : Int) < x118)))) (PO.gtr rfl rfl) rfl ?_
                  refine WL.nil ?_
                  refine WQ.thenC ?_
                  refine WC.cond (b := decide ((0 : Int) < x118)) rfl (fun hb124 => ?_) (fun hb124 => ?_)
                  · have h := ite_t hb124 h
                    refine WC.region ?_
                    refine WL.pure (v := vx52) (PO.move hs116_9) rfl ?_
                    refine WL.pure (v := (.int .i64 x118)) (PO.move hs116_14) rfl ?_
                    refine WL.pure (v := (.int .i64 (IntKind.i64.wrap (x118 - (1 : Int))))) (PO.sub rfl rfl) rfl ?_
                    obtain ⟨hg125, h⟩ := grd_i h
                    obtain ⟨p126, cs127, hat128, hrc129, hhas130⟩ := hx52.at hg125.1 hg125.2
                    obtain ⟨vw131_2, rfl, hw131_2⟩ := kd_api_Batch_open hrc129
                    refine WL.pure (v := (.pointer (some p126))) (PO.indexAddr (n := x52.length) Try.underlying43 sz53 rfl rfl hg125.1 hg125.2 hat128) rfl ?_
                    refine WL.pure (v := (.pointer (some (p126.add 0)))) (PO.fieldAddr fo53_0 rfl rfl) rfl ?_
                    refine WL.pure (v := (.int .i64 ((rd x52 (IntKind.i64.wrap (x118 - (1 : Int)))).Term))) (PO.loadC 1 pl3 rfl rfl (chunkHas0 hhas130)) rfl ?_
                    refine WL.pure (v := (.int .i64 ((rd x52 (IntKind.i64.wrap (x118 - (1 : Int)))).Term))) (PO.assign rfl) rfl ?_
                    refine WL.nil ?_
                    obtain rfl := Option.some.inj h
                    refine WQ.thenJ ?_
                    exact ⟨(IM.le.refl _), rfl, hs116_8, hs116_9, hs116_12, hs116_13, hs116_14, hs116_15, rfl⟩
                  · have h := ite_f hb124 h
                    refine WC.skip ?_
                    obtain rfl := Option.some.inj h
                    refine WQ.thenJ ?_
                    exact ⟨(IM.le.refl _), rfl, hs116_8, hs116_9, hs116_12, hs116_13, hs116_14, hs116_15, rfl⟩
                · rintro ρ123 M123 H123 ⟨hle123, rfl, hs123_8, hs123_9, hs123_12, hs123_13, hs123_14, hs123_15, hs123_16⟩
                  have hx75 := hx75.mono hle123
                  have hx52 := hx52.mono hle123
                  have hq102 := hq102.mono hle123
                  have hx117 := hx117.mono hle123
                  refine WC.seq ?_
                  refine WC.region ?_
                  refine WL.pure (v := vq102) (PO.move hs123_12) rfl ?_
                  refine WL.pure (v := vx75) (PO.move hs123_8) rfl ?_
                  refine WL.pure (v := (.int .i64 (x75.length : Int))) (PO.lenS Try.underlying43 rfl hx75.len) rfl ?_
                  refine WL.pure (v := (.int .i64 x122)) (PO.move hs123_16) rfl ?_
                  refine WL.pure (v := (.int .i64 x118)) (PO.move hs123_14) rfl ?_
                  obtain ⟨⟨r132, r133, r134⟩, hr135, h⟩ := bnd h
                  refine WL.f2 ?_
                  refine WL.eff (EO.call1 co24 (args4 (show ev _ _ = vq102 from rfl) (show ev _ _ = (.int .i64 (x75.length : Int)) from rfl) (show ev _ _ = (.int .i64 x122) from rfl) (show ev _ _ = (.int .i64 x118) from rfl)) (Tri.lend fun w0_ H0_ hs0_ => (f_spans_Parted_ok r98 (x75.length : Int) x122 x118 _ _ (hq102.rs hs0_) (r132, r133, r134) hr135))) rfl ?_
                  rintro _ _ _ hle137 ⟨_, ⟨Ml141, Hl142, hll143, rfl, rfl, ⟨rfl, rfl⟩⟩, rfl⟩
                  have hx75 := hx75.mono hle137
                  have hx52 := hx52.mono hle137
                  have hq102 := hq102.mono hle137
                  have hx117 := hx117.mono hle137
                  refine WL.a1 ?_
                  refine WL.pure (v := (.tuple #[(.int .i64 r132), (.int .i64 r133), (.bool r134)])) (PO.move rfl) rfl ?_
                  refine WL.pure (v := (.int .i64 r132)) (PO.extract rfl rfl) rfl ?_
                  refine WL.pure (v := (.int .i64 r133)) (PO.extract rfl rfl) rfl ?_
                  refine WL.pure (v := (.bool r134)) (PO.extract rfl rfl) rfl ?_
                  refine WL.pure (v := (.int .i64 r132)) (PO.assign rfl) rfl ?_
                  refine WL.pure (v := (.int .i64 r133)) (PO.assign rfl) rfl ?_
                  refine WL.pure (v := (.bool r134)) (PO.assign rfl) rfl ?_
                  refine WL.nil ?_
                  refine WQ.thenC ?_
                  refine WC.seq ?_
                  obtain ⟨x144, hj145, h⟩ := bnd h
                  refine WC.joinF (fun (x144 : Bool) (ρ' : Nat → Value) (M' : IM) (H' : HL) => (Ml141.minus cq102).le M' ∧ cx75 :: cx52 :: cq102 :: cx117 :: F = H' ∧ ρ' 8 = vx75 ∧ ρ' 9 = vx52 ∧ ρ' 12 = vq102 ∧ ρ' 13 = vx117 ∧ ρ' 14 = (.int .i64 x118) ∧ ρ' 15 = (.int .i64 x119) ∧ ρ' 17 = (.int .i64 r132) ∧ ρ' 18 = (.int .i64 r133) ∧ ρ' 119 = (.bool x144)) x144 ?_ ?_
                  · have h3145 := h
                    have h := hj145
                    refine WC.region ?_
                    refine WL.pure (v := (.bool r134)) (PO.move rfl) rfl ?_
                    refine WL.pure (v := (.bool (!r134))) (PO.not rfl) rfl ?_
                    refine WL.pure (v := (.bool (!r134))) (PO.move rfl) rfl ?_
                    rcases Bool.eq_false_or_eq_true (!r134) with hb146 | hb146
                    · have h := ite_t hb146 h
                      refine WL.off 116 rfl rfl hb146 rfl ?_
                      refine WL.off 116 rfl rfl hb146 rfl ?_
                      refine WL.pure (v := (.bool true)) (PO.pickT rfl hb146 rfl) rfl ?_
                      refine WL.nil ?_
                      refine WQ.f3 ?_
                      refine WQ.f1 ?_
                      refine WQ.f3 ?_
                      refine WQ.f3 ?_
                      obtain rfl := Option.some.inj h
                      refine WQ.thenJ ?_
                      exact ⟨(IM.le.refl _), rfl, hs123_8, hs123_9, hs123_12, hs123_13, hs123_14, hs123_15, rfl, rfl, rfl⟩
                    · have h := ite_f hb146 h
                      refine WL.on 116 rfl rfl hb146 ?_
                      refine WL.pure (v := (.int .i64 x118)) (PO.move hs123_14) rfl ?_
                      refine WL.on 116 rfl rfl hb146 ?_
                      refine WL.pure (v := (.bool (decide (x118 = (0 : Int))))) (PO.eql rfl rfl) rfl ?_
                      refine WL.pure (v := (.bool (decide (x118 = (0 : Int))))) (PO.pickF rfl hb146 rfl) rfl ?_
                      refine WL.nil ?_
                      refine WQ.f3 ?_
                      refine WQ.f1 ?_
                      refine WQ.f3 ?_
                      refine WQ.f3 ?_
                      obtain rfl := Option.some.inj h
                      refine WQ.thenJ ?_
                      exact ⟨(IM.le.refl _), rfl, hs123_8, hs123_9, hs123_12, hs123_13, hs123_14, hs123_15, rfl, rfl, rfl⟩
                  · rintro ρ145 M145 H145 ⟨hle145, rfl, hs145_8, hs145_9, hs145_12, hs145_13, hs145_14, hs145_15, hs145_17, hs145_18, hs145_119⟩
                    have hx75 := hx75.mono hle145
                    have hx52 := hx52.mono hle145
                    have hq102 := hq102.mono hle145
                    have hx117 := hx117.mono hle145
                    refine WC.cond (b := x144) hs145_119 (fun hb147 => ?_) (fun hb147 => ?_)
                    · have h := ite_t hb147 h
                      refine WC.exit ?_
                      refine WQ.thenE ?_
                      refine WQ.blockM rfl ?_
                      refine WQ.thenE ?_
                      refine WQ.leaveE (Sum.inl x118) (Option.some.inj h).symm (fun heq116 => ?_)
                      subst heq116
                      have h := elimL hK116
                      refine WQ.blockH ?_
                      refine WQ.f2 ?_
                      refine WQ.drop ?_
                      refine WQ.f2 ?_
                      refine WQ.drop ?_
                      refine WQ.thenFE h ?_
                      exact ⟨(((hle116.trans hle123).trans hle137).trans hle145), rfl, hs145_8, hs145_9, hs145_14⟩
                    · have h := ite_f hb147 h
                      refine WC.skip ?_
                      refine WQ.thenC ?_
                      refine WC.seq ?_
                      refine WC.region ?_
                      refine WL.pure (v := vx117) (PO.move hs145_13) rfl ?_
                      refine WL.pure (v := (.int .i64 x118)) (PO.move hs145_14) rfl ?_
                      refine WL.pure (v := (.int .i64 r132)) (PO.move hs145_17) rfl ?_
                      refine WL.pure (v := (.int .i64 r133)) (PO.move hs145_18) rfl ?_
                      obtain ⟨r148, hr149, h⟩ := bnd h
                      refine WL.f3 ?_
                      refine WL.eff (EO.call1 co26 (args4 (show ev _ _ = vx117 from rfl) (show ev _ _ = (.int .i64 x118) from rfl) (show ev _ _ = (.int .i64 r132) from rfl) (show ev _ _ = (.int .i64 r133) from rfl)) (Tri.lend fun w0_ H0_ hs0_ => (f_spans_Keep_ok x117 x118 r132 r133 _ _ (hx117.rs hs0_) r148 hr149))) rfl ?_
                      rintro _ _ _ hle151 ⟨_, ⟨Ml153, Hl154, hll155, rfl, rfl, ⟨rfl, rfl⟩⟩, rfl⟩
                      have hx75 := hx75.mono hle151
                      have hx52 := hx52.mono hle151
                      have hq102 := hq102.mono hle151
                      have hx117 := hx117.mono hle151
                      refine WL.a1 ?_
                      refine WL.pure (v := (.int .i64 r148)) (PO.assign rfl) rfl ?_
                      refine WL.nil ?_
                      refine WQ.thenC ?_
                      refine WC.seq ?_
                      refine WC.seq ?_
                      refine WC.region ?_
                      refine WL.pure (v := (.int .i64 r148)) (PO.move rfl) rfl ?_
                      refine WL.pure (v := (.int .i64 x118)) (PO.move hs145_14) rfl ?_
                      refine WL.pure (v := (.bool (decide (x118 ≤ r148)))) (PO.geq rfl rfl) rfl ?_
                      refine WL.nil ?_
                      refine WQ.thenC ?_
                      refine WC.cond (b := decide (x118 ≤ r148)) rfl (fun hb156 => ?_) (fun hb156 => ?_)
                      · have h := ite_t hb156 h
                        refine WC.seq ?_
                        refine WC.region ?_
                        refine WL.pure (v := (.bool false)) (PO.assign rfl) rfl ?_
                        refine WL.nil ?_
                        refine WQ.thenC ?_
                        refine WC.ret ?_
                        refine WQ.thenR ?_
                        refine WQ.blockR ?_
                        refine WQ.thenR ?_
                        refine WQ.leaveR (Sum.inr ()) (Option.some.inj h).symm (fun heq116 => ?_)
                        subst heq116
                        have h := (elimR hK116)
                        refine WQ.blockR ?_
                        refine WQ.thenR ?_
                        have h := KK.early h h3115
                        refine WQ.drop ?_
                        refine WQ.drop ?_
                        refine WQ.drop ?_
                        refine WQ.drop ?_
                        exact WQ.returnsF h [] rfl (results1 rfl rfl) ((((((((((((((hle2.trans hle14).trans hle27).trans hle32).trans hle45).trans hle50).trans hle53).trans hle76).trans hle101).trans hle109).trans hle116).trans hle123).trans hle137).trans hle145).trans hle151) ⟨rfl, rfl⟩
                      · have h := ite_f hb156 h
                        refine WC.skip ?_
                        refine WQ.thenC ?_
                        refine WC.seq ?_
                        refine WC.region ?_
                        refine WL.pure (v := (.int .i64 r148)) (PO.move rfl) rfl ?_
                        refine WL.pure (v := (.int .i64 r148)) (PO.assign rfl) rfl ?_
                        refine WL.nil ?_
                        refine WQ.thenC ?_
                        refine WC.region ?_
                        refine WL.pure (v := vx52) (PO.move hs145_9) rfl ?_
                        refine WL.pure (v := (.int .i64 r148)) (PO.move rfl) rfl ?_
                        obtain ⟨hg157, h⟩ := grd_i h
                        have h158 := hx52.sub hg157.1 hg157.2.1 hg157.2.2
                        refine WL.pure (v := (slV vx52 3 ((0 : Int)).toNat (r148).toNat)) (PO.slice (n := x52.length) (l := ((0 : Int)).toNat) (h := (r148).toNat) Try.underlying43 sz53 rfl hx52.len hx52.cap (bound0 rfl) ⟨_, _, rfl, (Int.le_trans hg157.1 hg157.2.1), rfl⟩ (Int.toNat_le_toNat hg157.2.1) (toNat_le_len hg157.2.2)) rfl ?_
                        obtain ⟨r159, hr160, h⟩ := bnd h
                        refine WL.f2 ?_
                        refine WL.eff (EO.call1 co29 (args3 (show ev _ _ = (.int .i64 (0 : Int)) from rfl) (show ev _ _ = (.int .i64 (0 : Int)) from rfl) (show ev _ _ = (slV vx52 3 ((0 : Int)).toNat (r148).toNat) from rfl)) (Tri.lend fun w0_ H0_ hs0_ => (f_spans_Of_ok (0 : Int) (0 : Int) (sub x52 (0 : Int) r148) _ _ (h158.rs hs0_) r159 hr160))) rfl ?_
                        rintro _ _ _ hle162 ⟨_, ⟨Ml164, Hl165, hll166, rfl, rfl, ⟨vq163, cq163, rfl, rfl, hq163⟩⟩, rfl⟩
                        have hx75 := hx75.mono hle162
                        have hx52 := hx52.mono hle162
                        have hq102 := hq102.mono hle162
                        have h158 := h158.mono hle162
                        have hq163 : OwnS kd_api_Span (Ml164.minus cx52) vq163 r159 cq163 := hq163.any kd_api_Span_flat
                        refine WL.a2 ?_
                        refine WL.pure (v := vq163) (PO.assign rfl) rfl ?_
                        refine WL.nil ?_
                        refine WQ.blockN ?_
                        refine WQ.thenC ?_
                        refine WC.region ?_
                        refine WL.pure (v := (.int .i64 x119)) (PO.move hs145_15) rfl ?_
                        refine WL.pure (v := (.int .i64 (IntKind.i64.wrap (x119 + (1 : Int))))) (PO.add rfl rfl) rfl ?_
                        refine WL.pure (v := (.int .i64 (IntKind.i64.wrap (x119 + (1 : Int))))) (PO.assign rfl) rfl ?_
                        refine WL.nil ?_
                        refine WQ.f2 ?_
                        refine WQ.drop ?_
                        refine WQ.f1 ?_
                        refine WQ.f3 ?_
                        refine WQ.f2 ?_
                        refine WQ.f3 ?_
                        refine WQ.again (r159, r148, IntKind.i64.wrap (x119 + (1 : Int))) (Option.some.inj h).symm ?_
                        exact ⟨vq163, cq163, (((((hle116.trans hle123).trans hle137).trans hle145).trans hle151).trans hle162), rfl, hs145_8, hs145_9, hs145_12, rfl, rfl, rfl, hq163⟩
              · have h := ite_f hb121 h
                refine WC.exit ?_
                refine WQ.thenE ?_
                refine WQ.leaveE (Sum.inl x118) (Option.some.inj h).symm (fun heq116 => ?_)
                subst heq116
                have h := elimL hK116
                refine WQ.blockH ?_
                refine WQ.f2 ?_
                refine WQ.drop ?_
                refine WQ.f2 ?_
                refine WQ.drop ?_
                refine WQ.thenFE h ?_
                exact ⟨hle116, rfl, hs116_8, hs116_9, hs116_14⟩
          · rintro x114 ρ115 M115 H115 rfl ⟨hle115, rfl, hs115_8, hs115_9, hs115_14⟩
            have hx75 := hx75.mono hle115
            have hx52 := hx52.mono hle115
            refine WC.seq ?_
            refine WC.seq ?_
            refine WC.region ?_
            refine WL.pure (v := (.int .i64 x114)) (PO.move hs115_14) rfl ?_
            refine WL.pure (v := vx75) (PO.move hs115_8) rfl ?_
            refine WL.pure (v := (.int .i64 (x75.length : Int))) (PO.lenS Try.underlying43 rfl hx75.len) rfl ?_
            refine WL.pure (v := (.bool (decide ((x75.length : Int) < x114)))) (PO.gtr rfl rfl) rfl ?_
            refine WL.nil ?_
            refine WQ.thenC ?_
            refine WC.cond (b := decide ((x75.length : Int) < x114)) rfl (fun hb167 => ?_) (fun hb167 => ?_)
            · have h := ite_t hb167 h
              refine WC.seq ?_
              refine WC.region ?_
              refine WL.pure (v := (.bool false)) (PO.assign rfl) rfl ?_
              refine WL.nil ?_
              refine WQ.thenC ?_
              refine WC.ret ?_
              refine WQ.thenR ?_
              refine WQ.drop ?_
              refine WQ.drop ?_
              exact WQ.returnsF h [] rfl (results1 rfl rfl) ((((((((((hle2.trans hle14).trans hle27).trans hle32).trans hle45).trans hle50).trans hle53).trans hle76).trans hle101).trans hle109).trans hle115) ⟨rfl, rfl⟩
            · have h := ite_f hb167 h
              refine WC.skip ?_
              refine WQ.thenC ?_
              obtain ⟨j168, hj168, h⟩ := bnd h
              refine WC.joinE (fun (_ : Unit) (ρ' : Nat → Value) (M' : IM) (H' : HL) => M115.le M' ∧ F = H' ∧ ρ' 14 = (.int .i64 x114)) j168 ?_ ?_
              · have h3168 := h
                have h := hj168
                refine WC.seq ?_
                refine WC.region ?_
                refine WL.pure (v := (.int .i64 (0 : Int))) (PO.assign rfl) rfl ?_
                refine WL.nil ?_
                refine WQ.thenC ?_
                refine WC.block ?_
                obtain ⟨e169, he169, hK169⟩ := bnd h
                clear h
                refine WC.loop he169 (fun (x170 : Int) (ρ' : Nat → Value) (M' : IM) (H' : HL) => M115.le M' ∧ cx75 :: cx52 :: F = H' ∧ ρ' 8 = vx75 ∧ ρ' 9 = vx52 ∧ ρ' 14 = (.int .i64 x114) ∧ ρ' 21 = (.int .i64 x170)) ?_ ?_
                · exact ⟨(IM.le.refl _), rfl, hs115_8, hs115_9, hs115_14, rfl⟩
                · rintro x170 o169 ρ169 M169 H169 h ⟨hle169, rfl, hs169_8, hs169_9, hs169_14, hs169_21⟩
                  unfold f_law13_SpansParts_l3 at h
                  have hx75 := hx75.mono hle169
                  have hx52 := hx52.mono hle169
                  refine WC.seq ?_
                  refine WC.seq ?_
                  refine WC.region ?_
                  refine WL.pure (v := (.int .i64 x170)) (PO.move hs169_21) rfl ?_
                  refine WL.pure (v := (.int .i64 x114)) (PO.move hs169_14) rfl ?_
                  refine WL.pure (v := (.bool (decide (x170 < x114)))) (PO.lss rfl rfl) rfl ?_
                  refine WL.nil ?_
                  refine WQ.thenC ?_
                  refine WC.cond (b := decide (x170 < x114)) rfl (fun hb171 => ?_) (fun hb171 => ?_)
                  · have h := ite_t hb171 h
                    refine WC.skip ?_
                    refine WQ.thenC ?_
                    refine WC.seq ?_
                    refine WC.block ?_
                    refine WC.seq ?_
                    refine WC.draw [0, 0, 3, 7, 15, 0, 0, 96, 224, 480, 1023] (.pure 0 (.pure 1 (.pure 2 (.pure 3 (.pure 4 (.pure 5 (.pure 6 (.pure 7 (.pure 8 (.pure 9 (.pure 10 .done))))))))))) mixed (by kernel_rfl) ?_
                    refine WT.pure (v := vx75) rfl (PO.move hs169_8) rfl ?_
                    refine WT.pure (v := (.int .i64 x170)) rfl (PO.move hs169_21) rfl ?_
                    obtain ⟨hg172, h⟩ := grd_i h
                    obtain ⟨p173, cs174, hat175, hrc176, hhas177⟩ := hx75.at hg172.1 hg172.2
                    obtain ⟨vw178_2, rfl, hw178_2⟩ := kd_api_Batch_open hrc176
                    refine WT.pure (v := (.pointer (some p173))) rfl (PO.indexAddr (n := x75.length) Try.underlying43 sz53 rfl rfl hg172.1 hg172.2 hat175) rfl ?_
                    refine WT.pure (v := (.pointer (some (p173.add 0)))) rfl (PO.fieldAddr fo53_0 rfl rfl) rfl ?_
                    refine WT.pure (v := (.int .i64 ((rd x75 x170).Term))) rfl (PO.loadC 0 pl3 rfl rfl (chunkHas0 hhas177)) rfl ?_
                    refine WT.pure (v := vx52) rfl (PO.move hs169_9) rfl ?_
                    refine WT.pure (v := (.int .i64 x170)) rfl (PO.move hs169_21) rfl ?_
                    obtain ⟨hg179, h⟩ := grd_i h
                    obtain ⟨p180, cs181, hat182, hrc183, hhas184⟩ := hx52.at hg179.1 hg179.2
                    obtain ⟨vw185_2, rfl, hw185_2⟩ := kd_api_Batch_open hrc183
                    refine WT.pure (v := (.pointer (some p180))) rfl (PO.indexAddr (n := x52.length) Try.underlying43 sz53 rfl rfl hg179.1 hg179.2 hat182) rfl ?_
                    refine WT.pure (v := (.pointer (some (p180.add 0)))) rfl (PO.fieldAddr fo53_0 rfl rfl) rfl ?_
                    refine WT.pure (v := (.int .i64 ((rd x52 x170).Term))) rfl (PO.loadC 1 pl3 rfl rfl (chunkHas0 hhas184)) rfl ?_
                    refine WT.pure (v := (.bool (decide (((rd x75 x170).Term) ≠ ((rd x52 x170).Term))))) rfl (PO.neq rfl rfl) rfl ?_
                    refine WT.fin ?_
                    refine WQ.thenC ?_
                    refine WC.cond (b := decide (((rd x75 x170).Term) ≠ ((rd x52 x170).Term))) rfl (fun hb186 => ?_) (fun hb186 => ?_)
                    · have h := ite_t hb186 h
                      refine WC.seq ?_
                      refine WC.region ?_
                      refine WL.pure (v := (.bool false)) (PO.assign rfl) rfl ?_
                      refine WL.nil ?_
                      refine WQ.thenC ?_
                      refine WC.ret ?_
                      refine WQ.blockR ?_
                      refine WQ.thenR ?_
                      refine WQ.leaveR (Sum.inr ()) (Option.some.inj h).symm (fun heq169 => ?_)
                      subst heq169
                      have h := (elimR hK169)
                      refine WQ.blockR ?_
                      refine WQ.thenR ?_
                      have h := KK.early h h3168
                      refine WQ.drop ?_
                      refine WQ.drop ?_
                      exact WQ.returnsF h [] rfl (results1 rfl rfl) (((((((((((hle2.trans hle14).trans hle27).trans hle32).trans hle45).trans hle50).trans hle53).trans hle76).trans hle101).trans hle109).trans hle115).trans hle169) ⟨rfl, rfl⟩
                    · have h := ite_f hb186 h
                      refine WC.skip ?_
                      refine WQ.blockN ?_
                      refine WQ.thenC ?_
                      refine WC.region ?_
                      refine WL.pure (v := (.int .i64 x170)) (PO.move hs169_21) rfl ?_
                      refine WL.pure (v := (.int .i64 (IntKind.i64.wrap (x170 + (1 : Int))))) (PO.add rfl rfl) rfl ?_
                      refine WL.pure (v := (.int .i64 (IntKind.i64.wrap (x170 + (1 : Int))))) (PO.assign rfl) rfl ?_
                      refine WL.nil ?_
                      refine WQ.again (IntKind.i64.wrap (x170 + (1 : Int))) (Option.some.inj h).symm ?_
                      exact ⟨hle169, rfl, hs169_8, hs169_9, hs169_14, rfl⟩
                  · have h := ite_f hb171 h
                    refine WC.exit ?_
                    refine WQ.thenE ?_
                    refine WQ.leaveE (Sum.inl ()) (Option.some.inj h).symm (fun heq169 => ?_)
                    subst heq169
                    have h := elimL hK169
                    refine WQ.blockH ?_
                    refine WQ.drop ?_
                    refine WQ.drop ?_
                    refine WQ.thenFE h ?_
                    exact ⟨hle169, rfl, hs169_14⟩
              · rintro _ ρ168 M168 H168 rfl ⟨hle168, rfl, hs168_14⟩
                obtain ⟨x187, hj188, h⟩ := bnd h
                refine WC.joinF (fun (x187 : Bool) (ρ' : Nat → Value) (M' : IM) (H' : HL) => M168.le M' ∧ F = H' ∧ ρ' 6 = (.bool x187)) x187 ?_ ?_
                · have h3188 := h
                  have h := hj188
                  refine WC.region ?_
                  refine WL.pure (v := (.int .i64 x114)) (PO.move hs168_14) rfl ?_
                  refine WL.pure (v := (.bool (decide ((0 : Int) ≤ x114)))) (PO.geq rfl rfl) rfl ?_
                  refine WL.pure (v := (.bool (decide ((0 : Int) ≤ x114)))) (PO.move rfl) rfl ?_
                  rcases Bool.eq_false_or_eq_true (decide ((0 : Int) ≤ x114)) with hb189 | hb189
                  · have h := ite_t hb189 h
                    refine WL.on 155 rfl rfl hb189 ?_
                    obtain ⟨r190, hr191, h⟩ := bnd h
                    refine WL.eff (EO.call0 co21 (args0) (f_law13_works_ok _ r190 hr191)) rfl ?_
                    rintro _ M192 _ hle193 ⟨_, ⟨rfl, rfl⟩, rfl⟩
                    refine WL.a0 ?_
                    refine WL.pure (v := (.bool r190)) (PO.pickT rfl hb189 rfl) rfl ?_
                    refine WL.pure (v := (.bool r190)) (PO.assign rfl) rfl ?_
                    refine WL.nil ?_
                    obtain rfl := Option.some.inj h
                    refine WQ.thenJ ?_
                    exact ⟨hle193, rfl, rfl⟩
                  · have h := ite_f hb189 h
                    refine WL.off 155 rfl rfl hb189 rfl ?_
                    refine WL.pure (v := (.bool false)) (PO.pickF rfl hb189 rfl) rfl ?_
                    refine WL.pure (v := (.bool false)) (PO.assign rfl) rfl ?_
                    refine WL.nil ?_
                    obtain rfl := Option.some.inj h
                    refine WQ.thenJ ?_
                    exact ⟨(IM.le.refl _), rfl, rfl⟩
                · rintro ρ188 M188 H188 ⟨hle188, rfl, hs188_6⟩
                  refine WC.ret ?_
                  exact WQ.returnsF h [] rfl (results1 rfl hs188_6) ((((((((((((hle2.trans hle14).trans hle27).trans hle32).trans hle45).trans hle50).trans hle53).trans hle76).trans hle101).trans hle109).trans hle115).trans hle168).trans hle188) ⟨rfl, rfl⟩


end Go.Proofs.Ytmifmgpfjamdkaa.G
