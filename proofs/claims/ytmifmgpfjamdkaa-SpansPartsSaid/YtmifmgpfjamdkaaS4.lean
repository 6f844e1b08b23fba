/- Go functions: what they come to, and that they do. Printed by a program of the session (gen). -/
import Derived.Test.YtmifmgpfjamdkaaSF
import Derived.Test.YtmifmgpfjamdkaaS3
set_option linter.unusedVariables false
set_option linter.unusedSimpArgs false
namespace Go.Proofs.Ytmifmgpfjamdkaa.G
open Go Go.KK

noncomputable def f_law13_rising_l0 (a0 : (List Int)) (s_ : ((List T_api_Batch) × Int × Int)) : Option (((List T_api_Batch) × Int × Int) ⊕ (List T_api_Batch)) :=
  match s_ with
  | (x4, x5, x6) =>
    (if (decide (x6 < (a0.length : Int))) = true then (grd (0 ≤ x6 ∧ x6 < a0.length) (grd (x4.length + [(⟨IntKind.i64.wrap (x5 + ((IntKind.i64.wrap (rd a0 x6)).tmod (3 : Int))), (0 : Int), []⟩ : T_api_Batch)].length ≤ 274877906944) (some (Sum.inl (x4 ++ [(⟨IntKind.i64.wrap (x5 + ((IntKind.i64.wrap (rd a0 x6)).tmod (3 : Int))), (0 : Int), []⟩ : T_api_Batch)], IntKind.i64.wrap (x5 + ((IntKind.i64.wrap (rd a0 x6)).tmod (3 : Int))), IntKind.i64.wrap (x6 + (1 : Int))))))) else (some (Sum.inr x4)))
noncomputable def f_law13_rising (a0 : (List Int)) : Option (List T_api_Batch) :=
  ((((iter (f_law13_rising_l0 a0) ([], (1 : Int), (0 : Int))).bind (fun (x7 : (List T_api_Batch)) => (some x7))) : Option (List T_api_Batch)).bind fun (x1 : (List T_api_Batch)) => (some x1))
def f_law13_rising_post (a0 : (List Int)) (v0 : Value) : (List T_api_Batch) → Value → IM → HL → Prop :=
  fun (r0 : (List T_api_Batch)) (v : Value) (M' : IM) (H' : HL) => ∃ vz0 cz0, vz0 = v ∧ H' = [cz0] ∧ OwnS kd_api_Batch M' vz0 r0 cz0
set_option maxHeartbeats 1000000 in
set_option maxRecDepth 100000 in
theorem f_law13_rising_ok (a0 : (List Int)) (M : IM) (v0 : Value) (h0 : RS (Kd.int .u8) M v0 a0) (res : (List T_api_Batch)) (h : f_law13_rising a0 = some res) :
    Tri Try.prog 28 #[v0] M [] (f_law13_rising_post a0 v0 res) := by
  unfold f_law13_rising at h
  refine Tri.enter (fn := Try.f28) Try.func28 rfl (Nat.le_of_ble_eq_true rfl) ?_
  intro F ρ hρ
  refine WC.seq ?_
  refine WC.region ?_
  refine WL.pure (v := (.slice none 0 0)) (PO.assign rfl) rfl ?_
  refine WL.nil ?_
  refine WQ.thenC ?_
  refine WC.seq ?_
  refine WC.region ?_
  refine WL.pure (v := (.slice none 0 0)) (PO.assign rfl) rfl ?_
  refine WL.nil ?_
  refine WQ.thenC ?_
  refine WC.seq ?_
  refine WC.region ?_
  refine WL.pure (v := (.int .i64 (1 : Int))) (PO.assign rfl) rfl ?_
  refine WL.nil ?_
  refine WQ.thenC ?_
  obtain ⟨x1, hj2, h⟩ := bnd h
  refine WC.joinF (fun (x1 : (List T_api_Batch)) (ρ' : Nat → Value) (M' : IM) (H' : HL) => ∃ vx1 cx1, M.le M' ∧ cx1 :: F = H' ∧ ρ' 3 = vx1 ∧ OwnS kd_api_Batch M' vx1 x1 cx1) x1 ?_ ?_
  · have h32 := h
    have h := hj2
    refine WC.seq ?_
    refine WC.region ?_
    refine WL.pure (v := (.int .i64 (0 : Int))) (PO.assign rfl) rfl ?_
    refine WL.nil ?_
    refine WQ.thenC ?_
    refine WC.block ?_
    refine WC.e0 ?_
    obtain ⟨e3, he3, hK3⟩ := bnd h
    clear h
    refine WC.loop he3 (fun (p_ : ((List T_api_Batch) × Int × Int)) (ρ' : Nat → Value) (M' : IM) (H' : HL) => match p_ with | (x4, x5, x6) => ∃ vx4 cx4, M.le M' ∧ cx4 :: F = H' ∧ ρ' 0 = v0 ∧ ρ' 3 = vx4 ∧ ρ' 4 = (.int .i64 x5) ∧ ρ' 5 = (.int .i64 x6) ∧ OwnS kd_api_Batch M' vx4 x4 cx4) ?_ ?_
    · exact ⟨(.slice none 0 0), [], (IM.le.refl _), rfl, (hρ 0), rfl, rfl, rfl, (OwnS.nil _ _)⟩
    · rintro ⟨x4, x5, x6⟩ o3 ρ3 M3 H3 h ⟨vx4, cx4, hle3, rfl, hs3_0, hs3_3, hs3_4, hs3_5, hx4⟩
      unfold f_law13_rising_l0 at h
      have h0 := h0.mono hle3
      refine WC.seq ?_
      refine WC.seq ?_
      refine WC.region ?_
      refine WL.pure (v := (.int .i64 x6)) (PO.move hs3_5) rfl ?_
      refine WL.pure (v := v0) (PO.move hs3_0) rfl ?_
      refine WL.pure (v := (.int .i64 (a0.length : Int))) (PO.lenS Try.underlying22 rfl h0.len) rfl ?_
      refine WL.pure (v := (.bool (decide (x6 < (a0.length : Int))))) (PO.lss rfl rfl) rfl ?_
      refine WL.nil ?_
      refine WQ.thenC ?_
      refine WC.cond (b := decide (x6 < (a0.length : Int))) rfl (fun hb8 => ?_) (fun hb8 => ?_)
      · have h := ite_t hb8 h
        refine WC.skip ?_
        refine WQ.thenC ?_
        refine WC.seq ?_
        refine WC.block ?_
        refine WC.seq ?_
        refine WC.region ?_
        refine WL.pure (v := (.int .i64 x5)) (PO.move hs3_4) rfl ?_
        refine WL.pure (v := v0) (PO.move hs3_0) rfl ?_
        refine WL.pure (v := (.int .i64 x6)) (PO.move hs3_5) rfl ?_
        obtain ⟨hg9, h⟩ := grd_i h
        obtain ⟨p10, cs11, hat12, hrc13, hhas14⟩ := h0.at hg9.1 hg9.2 (by decide)
        obtain rfl := hrc13
        refine WL.pure (v := (.pointer (some p10))) (PO.indexAddr (n := a0.length) Try.underlying22 sz5 rfl rfl hg9.1 hg9.2 hat12) rfl ?_
        refine WL.pure (v := (.int .u8 (rd a0 x6))) (PO.loadM pl5 rfl (IM.has0 hhas14)) rfl ?_
        refine WL.pure (v := (.int .i64 (IntKind.i64.wrap (rd a0 x6)))) (PO.conv us5 Try.underlying3 rfl) rfl ?_
        refine WL.pure (v := (.int .i64 ((IntKind.i64.wrap (rd a0 x6)).tmod (3 : Int)))) (PO.rem rfl rfl (by decide)) rfl ?_
        refine WL.pure (v := (.int .i64 (IntKind.i64.wrap (x5 + ((IntKind.i64.wrap (rd a0 x6)).tmod (3 : Int)))))) (PO.add rfl rfl) rfl ?_
        refine WL.pure (v := (.int .i64 (IntKind.i64.wrap (x5 + ((IntKind.i64.wrap (rd a0 x6)).tmod (3 : Int)))))) (PO.assign rfl) rfl ?_
        refine WL.nil ?_
        refine WQ.thenC ?_
        refine WC.region ?_
        refine WL.pure (v := vx4) (PO.move hs3_3) rfl ?_
        refine WL.pure (v := (.int .i64 (IntKind.i64.wrap (x5 + ((IntKind.i64.wrap (rd a0 x6)).tmod (3 : Int)))))) (PO.move rfl) rfl ?_
        refine WL.pure (v := (.agg #[(.int .i64 (IntKind.i64.wrap (x5 + ((IntKind.i64.wrap (rd a0 x6)).tmod (3 : Int))))), (.int .i64 (0 : Int)), (.slice none 0 0)])) (PO.buildL (cl := [(.int .i64 (IntKind.i64.wrap (x5 + ((IntKind.i64.wrap (rd a0 x6)).tmod (3 : Int))))), (.int .i64 (0 : Int)), (.slice none 0 0)]) ze53 fp53 (Parts.cons (congrArg Value.cells (show ev _ _ = (.int .i64 (IntKind.i64.wrap (x5 + ((IntKind.i64.wrap (rd a0 x6)).tmod (3 : Int))))) from rfl)) Parts.nil) rfl) rfl ?_
        refine WL.eff (EO.buildSliceL (cl := [(.int .i64 (IntKind.i64.wrap (x5 + ((IntKind.i64.wrap (rd a0 x6)).tmod (3 : Int))))), (.int .i64 (0 : Int)), (.slice none 0 0)]) Try.underlying43 iz53 rfl (Parts.cons (congrArg Value.cells (show ev _ _ = (.agg #[(.int .i64 (IntKind.i64.wrap (x5 + ((IntKind.i64.wrap (rd a0 x6)).tmod (3 : Int))))), (.int .i64 (0 : Int)), (.slice none 0 0)]) from rfl)) Parts.nil) rfl) rfl ?_
        rintro _ _ _ - ⟨rfl, g16, rfl, rfl⟩
        have h18 : OwnS kd_api_Batch M3 (.slice (some ⟨g16, 0, none⟩) 1 1) [(⟨IntKind.i64.wrap (x5 + ((IntKind.i64.wrap (rd a0 x6)).tmod (3 : Int))), (0 : Int), []⟩ : T_api_Batch)] [(g16, .cells #[(.int .i64 (IntKind.i64.wrap (x5 + ((IntKind.i64.wrap (rd a0 x6)).tmod (3 : Int))))), (.int .i64 (0 : Int)), (.slice none 0 0)] 53 (0, 0))] := OwnS.rows (css := [[(.int .i64 (IntKind.i64.wrap (x5 + ((IntKind.i64.wrap (rd a0 x6)).tmod (3 : Int))))), (.int .i64 (0 : Int)), (.slice none 0 0)]]) (Rows.cons (kd_api_Batch_mk (x := (⟨IntKind.i64.wrap (x5 + ((IntKind.i64.wrap (rd a0 x6)).tmod (3 : Int))), (0 : Int), []⟩ : T_api_Batch)) (RS.nil _ _)) Rows.nil) rfl rfl
        obtain ⟨hg22, h⟩ := grd_i h
        refine WL.f1 ?_
        refine WL.eff (EO.append (dd := kd_api_Batch) (xs := x4) (ys := [(⟨IntKind.i64.wrap (x5 + ((IntKind.i64.wrap (rd a0 x6)).tmod (3 : Int))), (0 : Int), []⟩ : T_api_Batch)]) Try.underlying43 Try.underlying43 in53 rfl (appB (by decide) hg22) (by decide) rfl rfl hx4 (h18.src 1 rfl)) rfl ?_
        rintro v21 _ _ - ⟨rfl, c19, rfl, h20⟩
        refine WL.pure (v := v21) (PO.assign rfl) rfl ?_
        refine WL.nil ?_
        refine WQ.blockN ?_
        refine WQ.thenC ?_
        refine WC.region ?_
        refine WL.pure (v := (.int .i64 x6)) (PO.move hs3_5) rfl ?_
        refine WL.pure (v := (.int .i64 (IntKind.i64.wrap (x6 + (1 : Int))))) (PO.add rfl rfl) rfl ?_
        refine WL.pure (v := (.int .i64 (IntKind.i64.wrap (x6 + (1 : Int))))) (PO.assign rfl) rfl ?_
        refine WL.nil ?_
        refine WQ.f1 ?_
        refine WQ.drop ?_
        refine WQ.again (x4 ++ [(⟨IntKind.i64.wrap (x5 + ((IntKind.i64.wrap (rd a0 x6)).tmod (3 : Int))), (0 : Int), []⟩ : T_api_Batch)], IntKind.i64.wrap (x5 + ((IntKind.i64.wrap (rd a0 x6)).tmod (3 : Int))), IntKind.i64.wrap (x6 + (1 : Int))) (Option.some.inj h).symm ?_
        exact ⟨v21, c19, hle3, rfl, hs3_0, rfl, rfl, rfl, h20⟩
      · have h := ite_f hb8 h
        refine WC.exit ?_
        refine WQ.thenE ?_
        refine WQ.leaveE x4 (Option.some.inj h).symm (fun heq3 => ?_)
        subst heq3
        have h := hK3
        refine WQ.blockH ?_
        obtain rfl := Option.some.inj h
        refine WQ.thenJ ?_
        exact ⟨vx4, cx4, hle3, rfl, hs3_3, hx4⟩
  · rintro ρ2 M2 H2 ⟨vx1, cx1, hle2, rfl, hs2_3, hx1⟩
    refine WC.seq ?_
    refine WC.region ?_
    refine WL.pure (v := vx1) (PO.move hs2_3) rfl ?_
    refine WL.pure (v := vx1) (PO.assign rfl) rfl ?_
    refine WL.nil ?_
    refine WQ.thenC ?_
    refine WC.ret ?_
    exact WQ.returnsF h [cx1] rfl (results1 rfl rfl) hle2 ⟨vx1, cx1, rfl, rfl, hx1⟩

noncomputable def f_spans_Of_l0 (a0 : Int) (a2 : (List T_api_Batch)) (s_ : ((List T_api_Span) × Int)) : Option (((List T_api_Span) × Int) ⊕ (List T_api_Span)) :=
  match s_ with
  | (x16, x17) =>
    (if (decide (x17 < (a2.length : Int))) = true then (grd (0 ≤ x17 ∧ x17 < a2.length) ((f_spans_Add x16 ((rd a2 x17).Term) (IntKind.i64.wrap (a0 + x17))).bind fun (r27 : (List T_api_Span)) => (some (Sum.inl (r27, IntKind.i64.wrap (x17 + (1 : Int))))))) else (some (Sum.inr x16)))
noncomputable def f_spans_Of (a0 : Int) (a1 : Int) (a2 : (List T_api_Batch)) : Option (List T_api_Span) :=
  (((if (decide ((0 : Int) < a0)) = true then (grd (([] : List T_api_Span).length + [(⟨a1, IntKind.i64.wrap (a0 - (1 : Int))⟩ : T_api_Span)].length ≤ 274877906944) (some (([] : List T_api_Span) ++ [(⟨a1, IntKind.i64.wrap (a0 - (1 : Int))⟩ : T_api_Span)]))) else (some [])) : Option (List T_api_Span)).bind fun (x1 : (List T_api_Span)) => ((((iter (f_spans_Of_l0 a0 a2) (x1, (0 : Int))).bind (fun (x18 : (List T_api_Span)) => (some x18))) : Option (List T_api_Span)).bind fun (x13 : (List T_api_Span)) => (some x13)))
def f_spans_Of_post (a0 : Int) (a1 : Int) (a2 : (List T_api_Batch)) (v2 : Value) : (List T_api_Span) → Value → IM → HL → Prop :=
  fun (r0 : (List T_api_Span)) (v : Value) (M' : IM) (H' : HL) => ∃ vz0 cz0, vz0 = v ∧ H' = [cz0] ∧ OwnS kd_api_Span M' vz0 r0 cz0
set_option maxHeartbeats 1000000 in
set_option maxRecDepth 100000 in
theorem f_spans_Of_ok (a0 : Int) (a1 : Int) (a2 : (List T_api_Batch)) (M : IM) (v2 : Value) (h2 : RS kd_api_Batch M v2 a2) (res : (List T_api_Span)) (h : f_spans_Of a0 a1 a2 = some res) :
    Tri Try.prog 29 #[(.int .i64 a0), (.int .i64 a1), v2] M [] (f_spans_Of_post a0 a1 a2 v2 res) := by
  unfold f_spans_Of at h
  refine Tri.enter (fn := Try.f29) Try.func29 rfl (Nat.le_of_ble_eq_true rfl) ?_
  intro F ρ hρ
  refine WC.seq ?_
  refine WC.region ?_
  refine WL.pure (v := (.slice none 0 0)) (PO.assign rfl) rfl ?_
  refine WL.nil ?_
  refine WQ.thenC ?_
  refine WC.seq ?_
  refine WC.region ?_
  refine WL.pure (v := (.slice none 0 0)) (PO.assign rfl) rfl ?_
  refine WL.nil ?_
  refine WQ.thenC ?_
  obtain ⟨x1, hj2, h⟩ := bnd h
  refine WC.joinF (fun (x1 : (List T_api_Span)) (ρ' : Nat → Value) (M' : IM) (H' : HL) => ∃ vx1 cx1, M.le M' ∧ cx1 :: F = H' ∧ ρ' 0 = (.int .i64 a0) ∧ ρ' 2 = v2 ∧ ρ' 7 = vx1 ∧ OwnS kd_api_Span M' vx1 x1 cx1) x1 ?_ ?_
  · have h32 := h
    have h := hj2
    refine WC.seq ?_
    refine WC.region ?_
    refine WL.pure (v := (.int .i64 a0)) (PO.move (hρ 0)) rfl ?_
    refine WL.pure (v := (.bool (decide ((0 : Int) < a0)))) (PO.gtr rfl rfl) rfl ?_
    refine WL.nil ?_
    refine WQ.thenC ?_
    refine WC.cond (b := decide ((0 : Int) < a0)) rfl (fun hb3 => ?_) (fun hb3 => ?_)
    · have h := ite_t hb3 h
      refine WC.region ?_
      refine WL.pure (v := (.slice none 0 0)) (PO.move rfl) rfl ?_
      refine WL.pure (v := (.int .i64 a1)) (PO.move (hρ 1)) rfl ?_
      refine WL.pure (v := (.int .i64 a0)) (PO.move (hρ 0)) rfl ?_
      refine WL.pure (v := (.int .i64 (IntKind.i64.wrap (a0 - (1 : Int))))) (PO.sub rfl rfl) rfl ?_
      refine WL.pure (v := (.agg #[(.int .i64 a1), (.int .i64 (IntKind.i64.wrap (a0 - (1 : Int))))])) (PO.buildL (cl := [(.int .i64 a1), (.int .i64 (IntKind.i64.wrap (a0 - (1 : Int))))]) ze50 fp50 (Parts.cons (congrArg Value.cells (show ev _ _ = (.int .i64 a1) from rfl)) (Parts.cons (congrArg Value.cells (show ev _ _ = (.int .i64 (IntKind.i64.wrap (a0 - (1 : Int)))) from rfl)) Parts.nil)) rfl) rfl ?_
      refine WL.eff (EO.buildSliceL (cl := [(.int .i64 a1), (.int .i64 (IntKind.i64.wrap (a0 - (1 : Int))))]) Try.underlying35 iz50 rfl (Parts.cons (congrArg Value.cells (show ev _ _ = (.agg #[(.int .i64 a1), (.int .i64 (IntKind.i64.wrap (a0 - (1 : Int))))]) from rfl)) Parts.nil) rfl) rfl ?_
      rintro _ _ _ - ⟨rfl, g4, rfl, rfl⟩
      have h6 : OwnS kd_api_Span M (.slice (some ⟨g4, 0, none⟩) 1 1) [(⟨a1, IntKind.i64.wrap (a0 - (1 : Int))⟩ : T_api_Span)] [(g4, .cells #[(.int .i64 a1), (.int .i64 (IntKind.i64.wrap (a0 - (1 : Int))))] 50 (0, 0))] := OwnS.rows (css := [[(.int .i64 a1), (.int .i64 (IntKind.i64.wrap (a0 - (1 : Int))))]]) (Rows.cons (kd_api_Span_mk (x := (⟨a1, IntKind.i64.wrap (a0 - (1 : Int))⟩ : T_api_Span))) Rows.nil) rfl rfl
      obtain ⟨hg11, h⟩ := grd_i h
      refine WL.e0 ?_
      refine WL.eff (EO.append (dd := kd_api_Span) (xs := []) (ys := [(⟨a1, IntKind.i64.wrap (a0 - (1 : Int))⟩ : T_api_Span)]) Try.underlying35 Try.underlying35 in50 rfl (appB (by decide) hg11) (by decide) rfl rfl (OwnS.nil _ _) (h6.src 1 rfl)) rfl ?_
      rintro v10 _ _ - ⟨rfl, c8, rfl, h9⟩
      refine WL.pure (v := v10) (PO.assign rfl) rfl ?_
      refine WL.nil ?_
      refine WQ.f1 ?_
      refine WQ.drop ?_
      obtain rfl := Option.some.inj h
      refine WQ.thenJ ?_
      exact ⟨v10, c8, (IM.le.refl _), rfl, (hρ 0), (hρ 2), rfl, h9⟩
    · have h := ite_f hb3 h
      refine WC.skip ?_
      refine WQ.e0 ?_
      obtain rfl := Option.some.inj h
      refine WQ.thenJ ?_
      exact ⟨(.slice none 0 0), [], (IM.le.refl _), rfl, (hρ 0), (hρ 2), rfl, (OwnS.nil _ _)⟩
  · rintro ρ2 M2 H2 ⟨vx1, cx1, hle2, rfl, hs2_0, hs2_2, hs2_7, hx1⟩
    have h2 := h2.mono hle2
    obtain ⟨x13, hj14, h⟩ := bnd h
    refine WC.joinF (fun (x13 : (List T_api_Span)) (ρ' : Nat → Value) (M' : IM) (H' : HL) => ∃ vx13 cx13, M2.le M' ∧ cx13 :: F = H' ∧ ρ' 7 = vx13 ∧ OwnS kd_api_Span M' vx13 x13 cx13) x13 ?_ ?_
    · have h314 := h
      have h := hj14
      refine WC.seq ?_
      refine WC.region ?_
      refine WL.pure (v := v2) (PO.move hs2_2) rfl ?_
      refine WL.pure (v := (.int .i64 (a2.length : Int))) (PO.lenS Try.underlying43 rfl h2.len) rfl ?_
      refine WL.pure (v := (.int .i64 (0 : Int))) (PO.move rfl) rfl ?_
      refine WL.nil ?_
      refine WQ.thenC ?_
      refine WC.block ?_
      obtain ⟨e15, he15, hK15⟩ := bnd h
      clear h
      refine WC.loop he15 (fun (p_ : ((List T_api_Span) × Int)) (ρ' : Nat → Value) (M' : IM) (H' : HL) => match p_ with | (x16, x17) => ∃ vx16 cx16, M2.le M' ∧ cx16 :: F = H' ∧ ρ' 0 = (.int .i64 a0) ∧ ρ' 2 = v2 ∧ ρ' 7 = vx16 ∧ ρ' 19 = (.int .i64 (a2.length : Int)) ∧ ρ' 20 = (.int .i64 x17) ∧ OwnS kd_api_Span M' vx16 x16 cx16) ?_ ?_
      · exact ⟨vx1, cx1, (IM.le.refl _), rfl, hs2_0, hs2_2, hs2_7, rfl, rfl, hx1⟩
      · rintro ⟨x16, x17⟩ o15 ρ15 M15 H15 h ⟨vx16, cx16, hle15, rfl, hs15_0, hs15_2, hs15_7, hs15_19, hs15_20, hx16⟩
        unfold f_spans_Of_l0 at h
        have h2 := h2.mono hle15
        refine WC.seq ?_
        refine WC.region ?_
        refine WL.pure (v := (.bool (decide (x17 < (a2.length : Int))))) (PO.lss hs15_20 hs15_19) rfl ?_
        refine WL.nil ?_
        refine WQ.thenC ?_
        refine WC.seq ?_
        refine WC.cond (b := decide (x17 < (a2.length : Int))) rfl (fun hb19 => ?_) (fun hb19 => ?_)
        · have h := ite_t hb19 h
          refine WC.skip ?_
          refine WQ.thenC ?_
          refine WC.seq ?_
          refine WC.block ?_
          refine WC.seq ?_
          refine WC.region ?_
          refine WL.pure (v := (.int .i64 x17)) (PO.move hs15_20) rfl ?_
          refine WL.pure (v := (.int .i64 x17)) (PO.assign rfl) rfl ?_
          refine WL.nil ?_
          refine WQ.thenC ?_
          refine WC.region ?_
          refine WL.pure (v := vx16) (PO.move hs15_7) rfl ?_
          refine WL.pure (v := v2) (PO.move hs15_2) rfl ?_
          refine WL.pure (v := (.int .i64 x17)) (PO.move rfl) rfl ?_
          obtain ⟨hg20, h⟩ := grd_i h
          obtain ⟨p21, cs22, hat23, hrc24, hhas25⟩ := h2.at hg20.1 hg20.2 (by decide)
          obtain ⟨vw26_2, rfl, hw26_2⟩ := kd_api_Batch_open hrc24
          refine WL.pure (v := (.pointer (some p21))) (PO.indexAddr (n := a2.length) Try.underlying43 sz53 rfl rfl hg20.1 hg20.2 hat23) rfl ?_
          refine WL.pure (v := (.pointer (some (p21.add 0)))) (PO.fieldAddr fo53_0 rfl rfl) rfl ?_
          refine WL.pure (v := (.int .i64 ((rd a2 x17).Term))) (PO.loadM pl3 rfl (IM.has0 hhas25)) rfl ?_
          refine WL.pure (v := (.int .i64 a0)) (PO.move hs15_0) rfl ?_
          refine WL.pure (v := (.int .i64 x17)) (PO.move rfl) rfl ?_
          refine WL.pure (v := (.int .i64 (IntKind.i64.wrap (a0 + x17)))) (PO.add rfl rfl) rfl ?_
          obtain ⟨r27, hr28, h⟩ := bnd h
          refine WL.eff (EO.call1 co34 (args3 (show ev _ _ = vx16 from rfl) (show ev _ _ = (.int .i64 ((rd a2 x17).Term)) from rfl) (show ev _ _ = (.int .i64 (IntKind.i64.wrap (a0 + x17))) from rfl)) (Tri.lend fun w0_ H0_ hs0_ => (f_spans_Add_ok x16 ((rd a2 x17).Term) (IntKind.i64.wrap (a0 + x17)) _ _ (hx16.rs hs0_) r27 hr28))) rfl ?_
          rintro _ _ _ hle30 ⟨_, ⟨Ml32, Hl33, hll34, rfl, rfl, ⟨vq31, cq31, rfl, rfl, hq31⟩⟩, rfl⟩
          have h2 := h2.mono hle30
          have hx16 := hx16.mono hle30
          have hq31 : OwnS kd_api_Span (Ml32.minus cx16) vq31 r27 cq31 := hq31.any kd_api_Span_flat
          refine WL.a2 ?_
          refine WL.pure (v := vq31) (PO.assign rfl) rfl ?_
          refine WL.nil ?_
          refine WQ.blockN ?_
          refine WQ.thenC ?_
          refine WC.region ?_
          refine WL.pure (v := (.int .i64 (IntKind.i64.wrap (x17 + (1 : Int))))) (PO.add hs15_20 rfl) rfl ?_
          refine WL.pure (v := (.int .i64 (IntKind.i64.wrap (x17 + (1 : Int))))) (PO.move rfl) rfl ?_
          refine WL.nil ?_
          refine WQ.drop ?_
          refine WQ.again (r27, IntKind.i64.wrap (x17 + (1 : Int))) (Option.some.inj h).symm ?_
          exact ⟨vq31, cq31, (hle15.trans hle30), rfl, hs15_0, hs15_2, rfl, hs15_19, rfl, hq31⟩
        · have h := ite_f hb19 h
          refine WC.exit ?_
          refine WQ.thenE ?_
          refine WQ.leaveE x16 (Option.some.inj h).symm (fun heq15 => ?_)
          subst heq15
          have h := hK15
          refine WQ.blockH ?_
          obtain rfl := Option.some.inj h
          refine WQ.thenJ ?_
          exact ⟨vx16, cx16, hle15, rfl, hs15_7, hx16⟩
    · rintro ρ14 M14 H14 ⟨vx13, cx13, hle14, rfl, hs14_7, hx13⟩
      refine WC.seq ?_
      refine WC.region ?_
      refine WL.pure (v := vx13) (PO.move hs14_7) rfl ?_
      refine WL.pure (v := vx13) (PO.assign rfl) rfl ?_
      refine WL.nil ?_
      refine WQ.thenC ?_
      refine WC.ret ?_
      exact WQ.returnsF h [cx13] rfl (results1 rfl rfl) (hle2.trans hle14) ⟨vx13, cx13, rfl, rfl, hx13⟩

noncomputable def f_law13_SpansTells_l1 (a0 : Int) (r12 : (List T_api_Span)) (x31 : Int) (s_ : (Int × Int)) : Option ((Int × Int) ⊕ Int) :=
  match s_ with
  | (x37, x38) =>
    (if (decide (x38 < (r12.length : Int))) = true then (((grd (0 ≤ x38 ∧ x38 < r12.length) (if (decide (((rd r12 x38).Start) ≤ (IntKind.i64.wrap ((IntKind.i64.wrap a0) + x31)))) = true then (grd (0 ≤ x38 ∧ x38 < r12.length) (some ((rd r12 x38).Term))) else (some x37))) : Option Int).bind fun (x41 : Int) => (some (Sum.inl (x41, IntKind.i64.wrap (x38 + (1 : Int)))))) else (some (Sum.inr x37)))
noncomputable def f_law13_SpansTells_l0 (a0 : Int) (r7 : (List T_api_Batch)) (r12 : (List T_api_Span)) (s_ : Int) : Option (Int ⊕ (Unit ⊕ Unit)) :=
  match s_ with
  | x31 =>
    (if (decide (x31 < (r7.length : Int))) = true then ((((((iter (f_law13_SpansTells_l1 a0 r12 x31) ((0 : Int), (0 : Int))).bind (fun (x39 : Int) => (some x39))) : Option Int).bind fun (x34 : Int) => (grd (0 ≤ x31 ∧ x31 < r7.length) (if (decide (x34 ≠ ((rd r7 x31).Term))) = true then (((some (Sum.inr (Sum.inr ())))).bind fun r => some (Sum.inr r)) else (some (Sum.inl ()))))) : Option (Unit ⊕ (Int ⊕ (Unit ⊕ Unit)))).bind (Sum.elim (fun _ => (some (Sum.inl (IntKind.i64.wrap (x31 + (1 : Int)))))) some)) else (some (Sum.inr (Sum.inl ()))))
noncomputable def f_law13_SpansTells (a0 : Int) (a1 : (List Int)) : Option Bool :=
  (if (decide ((200 : Int) < (a1.length : Int))) = true then ((f_law13_works).bind fun (r2 : Bool) => (some r2)) else ((f_law13_rising a1).bind fun (r7 : (List T_api_Batch)) => ((f_spans_Of (IntKind.i64.wrap a0) (0 : Int) r7).bind fun (r12 : (List T_api_Span)) => ((f_spans_Check r12).bind fun (r20 : GErr) => (if (!r20.isNil) = true then (some false) else ((((iter (f_law13_SpansTells_l0 a0 r7 r12) (0 : Int)).bind (Sum.elim (fun _ => (some (Sum.inl ()))) (fun _ => (((some false)).bind fun r => some (Sum.inr r))))) : Option (Unit ⊕ Bool)).bind (Sum.elim (fun _ => ((f_law13_works).bind fun (r66 : Bool) => (some r66))) some)))))))
def f_law13_SpansTells_post (a0 : Int) (a1 : (List Int)) (v1 : Value) : Bool → Value → IM → HL → Prop :=
  fun (r0 : Bool) (v : Value) (M' : IM) (H' : HL) => (.bool r0) = v ∧ H' = []
set_option maxHeartbeats 1000000 in
set_option maxRecDepth 100000 in
theorem f_law13_SpansTells_ok (a0 : Int) (a1 : (List Int)) (M : IM) (v1 : Value) (h1 : RS (Kd.int .u8) M v1 a1) (res : Bool) (h : f_law13_SpansTells a0 a1 = some res) :
    Tri Try.prog 9 #[(.int .u16 a0), v1] M [] (f_law13_SpansTells_post a0 a1 v1 res) := by
  unfold f_law13_SpansTells at h
  refine Tri.enter (fn := Try.f9) Try.func9 rfl (Nat.le_of_ble_eq_true rfl) ?_
  intro F ρ hρ
  refine WC.seq ?_
  refine WC.region ?_
  refine WL.pure (v := (.bool false)) (PO.assign rfl) rfl ?_
  refine WL.nil ?_
  refine WQ.thenC ?_
  refine WC.seq ?_
  refine WC.seq ?_
  refine WC.region ?_
  refine WL.pure (v := v1) (PO.move (hρ 1)) rfl ?_
  refine WL.pure (v := (.int .i64 (a1.length : Int))) (PO.lenS Try.underlying22 rfl h1.len) rfl ?_
  refine WL.pure (v := (.bool (decide ((200 : Int) < (a1.length : Int))))) (PO.gtr rfl rfl) rfl ?_
  refine WL.nil ?_
  refine WQ.thenC ?_
  refine WC.cond (b := decide ((200 : Int) < (a1.length : Int))) rfl (fun hb1 => ?_) (fun hb1 => ?_)
  · have h := ite_t hb1 h
    refine WC.seq ?_
    refine WC.region ?_
    obtain ⟨r2, hr3, h⟩ := bnd h
    refine WL.eff (EO.call0 co21 (args0) (f_law13_works_ok _ r2 hr3)) rfl ?_
    rintro _ M4 _ hle5 ⟨_, ⟨rfl, rfl⟩, rfl⟩
    have h1 := h1.mono hle5
    refine WL.a0 ?_
    refine WL.pure (v := (.bool r2)) (PO.assign rfl) rfl ?_
    refine WL.nil ?_
    refine WQ.thenC ?_
    refine WC.ret ?_
    refine WQ.thenR ?_
    exact WQ.returnsF h [] rfl (results1 rfl rfl) hle5 ⟨rfl, rfl⟩
  · have h := ite_f hb1 h
    refine WC.skip ?_
    refine WQ.thenC ?_
    refine WC.seq ?_
    refine WC.region ?_
    refine WL.pure (v := v1) (PO.move (hρ 1)) rfl ?_
    obtain ⟨r7, hr8, h⟩ := bnd h
    refine WL.eff (EO.call0 co28 (args1 (show ev _ _ = v1 from rfl)) (f_law13_rising_ok a1 _ _ h1 r7 hr8)) rfl ?_
    rintro _ M9 _ hle10 ⟨_, ⟨vq11, cq11, rfl, rfl, hq11⟩, rfl⟩
    have h1 := h1.mono hle10
    refine WL.a1 ?_
    refine WL.pure (v := vq11) (PO.assign rfl) rfl ?_
    refine WL.nil ?_
    refine WQ.thenC ?_
    refine WC.seq ?_
    refine WC.region ?_
    refine WL.pure (v := (.int .u16 a0)) (PO.move (hρ 0)) rfl ?_
    refine WL.pure (v := (.int .i64 (IntKind.i64.wrap a0))) (PO.conv us42 Try.underlying3 rfl) rfl ?_
    refine WL.pure (v := vq11) (PO.move rfl) rfl ?_
    obtain ⟨r12, hr13, h⟩ := bnd h
    refine WL.eff (EO.call1 co29 (args3 (show ev _ _ = (.int .i64 (IntKind.i64.wrap a0)) from rfl) (show ev _ _ = (.int .i64 (0 : Int)) from rfl) (show ev _ _ = vq11 from rfl)) (Tri.lend fun w0_ H0_ hs0_ => (f_spans_Of_ok (IntKind.i64.wrap a0) (0 : Int) r7 _ _ (hq11.rs hs0_) r12 hr13))) rfl ?_
    rintro _ _ _ hle15 ⟨_, ⟨Ml17, Hl18, hll19, rfl, rfl, ⟨vq16, cq16, rfl, rfl, hq16⟩⟩, rfl⟩
    have hq11 := hq11.mono hle15
    have hq16 : OwnS kd_api_Span (Ml17.minus cq11) vq16 r12 cq16 := hq16.any kd_api_Span_flat
    refine WL.a2 ?_
    refine WL.pure (v := vq16) (PO.assign rfl) rfl ?_
    refine WL.nil ?_
    refine WQ.thenC ?_
    refine WC.seq ?_
    refine WC.seq ?_
    refine WC.region ?_
    refine WL.pure (v := vq16) (PO.move rfl) rfl ?_
    obtain ⟨r20, hr21, h⟩ := bnd h
    refine WL.f1 ?_
    refine WL.eff (EO.call1 co30 (args1 (show ev _ _ = vq16 from rfl)) (Tri.lend fun w0_ H0_ hs0_ => (f_spans_Check_ok r12 _ _ (hq16.rs hs0_) r20 hr21))) rfl ?_
    rintro _ _ _ hle23 ⟨_, ⟨Ml25, Hl26, hll27, rfl, rfl, ⟨rfl, rfl⟩⟩, rfl⟩
    have hq11 := hq11.mono hle23
    have hq16 := hq16.mono hle23
    refine WL.a1 ?_
    refine WL.pure (v := (.bool (!r20.isNil))) (PO.errNotNil Try.underlying47 rfl) rfl ?_
    refine WL.nil ?_
    refine WQ.thenC ?_
    refine WC.cond (b := !r20.isNil) rfl (fun hb28 => ?_) (fun hb28 => ?_)
    · have h := ite_t hb28 h
      refine WC.seq ?_
      refine WC.region ?_
      refine WL.pure (v := (.bool false)) (PO.assign rfl) rfl ?_
      refine WL.nil ?_
      refine WQ.thenC ?_
      refine WC.ret ?_
      refine WQ.thenR ?_
      refine WQ.drop ?_
      refine WQ.drop ?_
      exact WQ.returnsF h [] rfl (results1 rfl rfl) ((hle10.trans hle15).trans hle23) ⟨rfl, rfl⟩
    · have h := ite_f hb28 h
      refine WC.skip ?_
      refine WQ.thenC ?_
      obtain ⟨j29, hj29, h⟩ := bnd h
      refine WC.joinE (fun (_ : Unit) (ρ' : Nat → Value) (M' : IM) (H' : HL) => (Ml25.minus cq16).le M' ∧ F = H') j29 ?_ ?_
      · have h329 := h
        have h := hj29
        refine WC.seq ?_
        refine WC.region ?_
        refine WL.pure (v := (.int .i64 (0 : Int))) (PO.assign rfl) rfl ?_
        refine WL.nil ?_
        refine WQ.thenC ?_
        refine WC.block ?_
        refine WC.f1 ?_
        obtain ⟨e30, he30, hK30⟩ := bnd h
        clear h
        refine WC.loop he30 (fun (x31 : Int) (ρ' : Nat → Value) (M' : IM) (H' : HL) => (Ml25.minus cq16).le M' ∧ cq11 :: cq16 :: F = H' ∧ ρ' 0 = (.int .u16 a0) ∧ ρ' 5 = vq11 ∧ ρ' 6 = vq16 ∧ ρ' 7 = (.int .i64 x31)) ?_ ?_
        · exact ⟨(IM.le.refl _), rfl, (hρ 0), rfl, rfl, rfl⟩
        · rintro x31 o30 ρ30 M30 H30 h ⟨hle30, rfl, hs30_0, hs30_5, hs30_6, hs30_7⟩
          unfold f_law13_SpansTells_l0 at h
          have hq11 := hq11.mono hle30
          have hq16 := hq16.mono hle30
          refine WC.seq ?_
          refine WC.seq ?_
          refine WC.region ?_
          refine WL.pure (v := (.int .i64 x31)) (PO.move hs30_7) rfl ?_
          refine WL.pure (v := vq11) (PO.move hs30_5) rfl ?_
          refine WL.pure (v := (.int .i64 (r7.length : Int))) (PO.lenS Try.underlying43 rfl hq11.len) rfl ?_
          refine WL.pure (v := (.bool (decide (x31 < (r7.length : Int))))) (PO.lss rfl rfl) rfl ?_
          refine WL.nil ?_
          refine WQ.thenC ?_
          refine WC.cond (b := decide (x31 < (r7.length : Int))) rfl (fun hb32 => ?_) (fun hb32 => ?_)
          · have h := ite_t hb32 h
            refine WC.skip ?_
            refine WQ.thenC ?_
            obtain ⟨j33, hj33, h⟩ := bnd h
            refine WC.joinE (fun (_ : Unit) (ρ' : Nat → Value) (M' : IM) (H' : HL) => M30.le M' ∧ cq11 :: cq16 :: F = H' ∧ ρ' 0 = (.int .u16 a0) ∧ ρ' 5 = vq11 ∧ ρ' 6 = vq16 ∧ ρ' 7 = (.int .i64 x31)) j33 ?_ ?_
            · have h333 := h
              have h := hj33
              refine WC.block ?_
              refine WC.seq ?_
              refine WC.region ?_
              refine WL.pure (v := (.int .i64 (0 : Int))) (PO.assign rfl) rfl ?_
              refine WL.nil ?_
              refine WQ.thenC ?_
              obtain ⟨x34, hj35, h⟩ := bnd h
              refine WC.joinF (fun (x34 : Int) (ρ' : Nat → Value) (M' : IM) (H' : HL) => M30.le M' ∧ cq11 :: cq16 :: F = H' ∧ ρ' 0 = (.int .u16 a0) ∧ ρ' 5 = vq11 ∧ ρ' 6 = vq16 ∧ ρ' 7 = (.int .i64 x31) ∧ ρ' 8 = (.int .i64 x34)) x34 ?_ ?_
              · have h335 := h
                have h := hj35
                refine WC.seq ?_
                refine WC.region ?_
                refine WL.pure (v := (.int .i64 (0 : Int))) (PO.assign rfl) rfl ?_
                refine WL.nil ?_
                refine WQ.thenC ?_
                refine WC.block ?_
                obtain ⟨e36, he36, hK36⟩ := bnd h
                clear h
                refine WC.loop he36 (fun (p_ : (Int × Int)) (ρ' : Nat → Value) (M' : IM) (H' : HL) => match p_ with | (x37, x38) => M30.le M' ∧ cq11 :: cq16 :: F = H' ∧ ρ' 0 = (.int .u16 a0) ∧ ρ' 5 = vq11 ∧ ρ' 6 = vq16 ∧ ρ' 7 = (.int .i64 x31) ∧ ρ' 8 = (.int .i64 x37) ∧ ρ' 9 = (.int .i64 x38)) ?_ ?_
                · exact ⟨(IM.le.refl _), rfl, hs30_0, hs30_5, hs30_6, hs30_7, rfl, rfl⟩
                · rintro ⟨x37, x38⟩ o36 ρ36 M36 H36 h ⟨hle36, rfl, hs36_0, hs36_5, hs36_6, hs36_7, hs36_8, hs36_9⟩
                  unfold f_law13_SpansTells_l1 at h
                  have hq11 := hq11.mono hle36
                  have hq16 := hq16.mono hle36
                  refine WC.seq ?_
                  refine WC.seq ?_
                  refine WC.region ?_
                  refine WL.pure (v := (.int .i64 x38)) (PO.move hs36_9) rfl ?_
                  refine WL.pure (v := vq16) (PO.move hs36_6) rfl ?_
                  refine WL.pure (v := (.int .i64 (r12.length : Int))) (PO.lenS Try.underlying35 rfl hq16.len) rfl ?_
                  refine WL.pure (v := (.bool (decide (x38 < (r12.length : Int))))) (PO.lss rfl rfl) rfl ?_
                  refine WL.nil ?_
                  refine WQ.thenC ?_
                  refine WC.cond (b := decide (x38 < (r12.length : Int))) rfl (fun hb40 => ?_) (fun hb40 => ?_)
                  · have h := ite_t hb40 h
                    refine WC.skip ?_
                    refine WQ.thenC ?_
                    obtain ⟨x41, hj42, h⟩ := bnd h
                    refine WC.joinF (fun (x41 : Int) (ρ' : Nat → Value) (M' : IM) (H' : HL) => M36.le M' ∧ cq11 :: cq16 :: F = H' ∧ ρ' 0 = (.int .u16 a0) ∧ ρ' 5 = vq11 ∧ ρ' 6 = vq16 ∧ ρ' 7 = (.int .i64 x31) ∧ ρ' 8 = (.int .i64 x41) ∧ ρ' 9 = (.int .i64 x38)) x41 ?_ ?_
                    · have h342 := h
                      have h := hj42
                      refine WC.block ?_
                      refine WC.seq ?_
                      refine WC.region ?_
                      refine WL.pure (v := vq16) (PO.move hs36_6) rfl ?_
                      refine WL.pure (v := (.int .i64 x38)) (PO.move hs36_9) rfl ?_
                      obtain ⟨hg43, h⟩ := grd_i h
                      obtain ⟨p44, cs45, hat46, hrc47, hhas48⟩ := hq16.at hg43.1 hg43.2
                      obtain rfl := kd_api_Span_open hrc47
                      refine WL.pure (v := (.pointer (some p44))) (PO.indexAddr (n := r12.length) Try.underlying35 sz50 rfl rfl hg43.1 hg43.2 hat46) rfl ?_
                      refine WL.pure (v := (.pointer (some (p44.add 1)))) (PO.fieldAddr fo50_1 rfl rfl) rfl ?_
                      refine WL.pure (v := (.int .i64 ((rd r12 x38).Start))) (PO.loadC 1 pl3 rfl rfl (hhas48 1 _ rfl)) rfl ?_
                      refine WL.pure (v := (.int .u16 a0)) (PO.move hs36_0) rfl ?_
                      refine WL.pure (v := (.int .i64 (IntKind.i64.wrap a0))) (PO.conv us42 Try.underlying3 rfl) rfl ?_
                      refine WL.pure (v := (.int .i64 x31)) (PO.move hs36_7) rfl ?_
                      refine WL.pure (v := (.int .i64 (IntKind.i64.wrap ((IntKind.i64.wrap a0) + x31)))) (PO.add rfl rfl) rfl ?_
                      refine WL.pure (v := (.bool (decide (((rd r12 x38).Start) ≤ (IntKind.i64.wrap ((IntKind.i64.wrap a0) + x31)))))) (PO.leq rfl rfl) rfl ?_
                      refine WL.nil ?_
                      refine WQ.thenC ?_
                      refine WC.cond (b := decide (((rd r12 x38).Start) ≤ (IntKind.i64.wrap ((IntKind.i64.wrap a0) + x31)))) rfl (fun hb50 => ?_) (fun hb50 => ?_)
                      · have h := ite_t hb50 h
                        refine WC.region ?_
                        refine WL.pure (v := vq16) (PO.move hs36_6) rfl ?_
                        refine WL.pure (v := (.int .i64 x38)) (PO.move hs36_9) rfl ?_
                        obtain ⟨hg51, h⟩ := grd_i h
                        obtain ⟨p52, cs53, hat54, hrc55, hhas56⟩ := hq16.at hg51.1 hg51.2
                        obtain rfl := kd_api_Span_open hrc55
                        refine WL.pure (v := (.pointer (some p52))) (PO.indexAddr (n := r12.length) Try.underlying35 sz50 rfl rfl hg51.1 hg51.2 hat54) rfl ?_
                        refine WL.pure (v := (.pointer (some (p52.add 0)))) (PO.fieldAddr fo50_0 rfl rfl) rfl ?_
                        refine WL.pure (v := (.int .i64 ((rd r12 x38).Term))) (PO.loadC 1 pl3 rfl rfl (chunkHas0 hhas56)) rfl ?_
                        refine WL.pure (v := (.int .i64 ((rd r12 x38).Term))) (PO.assign rfl) rfl ?_
                        refine WL.nil ?_
                        refine WQ.blockN ?_
                        obtain rfl := Option.some.inj h
                        refine WQ.thenJ ?_
                        exact ⟨(IM.le.refl _), rfl, hs36_0, hs36_5, hs36_6, hs36_7, rfl, hs36_9⟩
                      · have h := ite_f hb50 h
                        refine WC.skip ?_
                        refine WQ.blockN ?_
                        obtain rfl := Option.some.inj h
                        refine WQ.thenJ ?_
                        exact ⟨(IM.le.refl _), rfl, hs36_0, hs36_5, hs36_6, hs36_7, hs36_8, hs36_9⟩
                    · rintro ρ42 M42 H42 ⟨hle42, rfl, hs42_0, hs42_5, hs42_6, hs42_7, hs42_8, hs42_9⟩
                      have hq11 := hq11.mono hle42
                      have hq16 := hq16.mono hle42
                      refine WC.region ?_
                      refine WL.pure (v := (.int .i64 x38)) (PO.move hs42_9) rfl ?_
                      refine WL.pure (v := (.int .i64 (IntKind.i64.wrap (x38 + (1 : Int))))) (PO.add rfl rfl) rfl ?_
                      refine WL.pure (v := (.int .i64 (IntKind.i64.wrap (x38 + (1 : Int))))) (PO.assign rfl) rfl ?_
                      refine WL.nil ?_
                      refine WQ.again (x41, IntKind.i64.wrap (x38 + (1 : Int))) (Option.some.inj h).symm ?_
                      exact ⟨(hle36.trans hle42), rfl, hs42_0, hs42_5, hs42_6, hs42_7, hs42_8, rfl⟩
                  · have h := ite_f hb40 h
                    refine WC.exit ?_
                    refine WQ.thenE ?_
                    refine WQ.leaveE x37 (Option.some.inj h).symm (fun heq36 => ?_)
                    subst heq36
                    have h := hK36
                    refine WQ.blockH ?_
                    obtain rfl := Option.some.inj h
                    refine WQ.thenJ ?_
                    exact ⟨hle36, rfl, hs36_0, hs36_5, hs36_6, hs36_7, hs36_8⟩
              · rintro ρ35 M35 H35 ⟨hle35, rfl, hs35_0, hs35_5, hs35_6, hs35_7, hs35_8⟩
                have hq11 := hq11.mono hle35
                have hq16 := hq16.mono hle35
                refine WC.seq ?_
                refine WC.region ?_
                refine WL.pure (v := (.int .i64 x34)) (PO.move hs35_8) rfl ?_
                refine WL.pure (v := vq11) (PO.move hs35_5) rfl ?_
                refine WL.pure (v := (.int .i64 x31)) (PO.move hs35_7) rfl ?_
                obtain ⟨hg58, h⟩ := grd_i h
                obtain ⟨p59, cs60, hat61, hrc62, hhas63⟩ := hq11.at hg58.1 hg58.2
                obtain ⟨vw64_2, rfl, hw64_2⟩ := kd_api_Batch_open hrc62
                refine WL.pure (v := (.pointer (some p59))) (PO.indexAddr (n := r7.length) Try.underlying43 sz53 rfl rfl hg58.1 hg58.2 hat61) rfl ?_
                refine WL.pure (v := (.pointer (some (p59.add 0)))) (PO.fieldAddr fo53_0 rfl rfl) rfl ?_
                refine WL.pure (v := (.int .i64 ((rd r7 x31).Term))) (PO.loadC 0 pl3 rfl rfl (chunkHas0 hhas63)) rfl ?_
                refine WL.pure (v := (.bool (decide (x34 ≠ ((rd r7 x31).Term))))) (PO.neq rfl rfl) rfl ?_
                refine WL.nil ?_
                refine WQ.thenC ?_
                refine WC.cond (b := decide (x34 ≠ ((rd r7 x31).Term))) rfl (fun hb65 => ?_) (fun hb65 => ?_)
                · have h := ite_t hb65 h
                  refine WC.seq ?_
                  refine WC.region ?_
                  refine WL.pure (v := (.bool false)) (PO.assign rfl) rfl ?_
                  refine WL.nil ?_
                  refine WQ.thenC ?_
                  refine WC.ret ?_
                  refine WQ.blockR ?_
                  refine WQ.thenR ?_
                  have h := KK.early h h333
                  refine WQ.leaveR (Sum.inr ()) (Option.some.inj h).symm (fun heq30 => ?_)
                  subst heq30
                  have h := (elimR hK30)
                  refine WQ.blockR ?_
                  refine WQ.thenR ?_
                  have h := KK.early h h329
                  refine WQ.drop ?_
                  refine WQ.drop ?_
                  exact WQ.returnsF h [] rfl (results1 rfl rfl) ((((hle10.trans hle15).trans hle23).trans hle30).trans hle35) ⟨rfl, rfl⟩
                · have h := ite_f hb65 h
                  refine WC.skip ?_
                  refine WQ.blockN ?_
                  refine WQ.thenFE h ?_
                  exact ⟨hle35, rfl, hs35_0, hs35_5, hs35_6, hs35_7⟩
            · rintro _ ρ33 M33 H33 rfl ⟨hle33, rfl, hs33_0, hs33_5, hs33_6, hs33_7⟩
              have hq11 := hq11.mono hle33
              have hq16 := hq16.mono hle33
              refine WC.region ?_
              refine WL.pure (v := (.int .i64 x31)) (PO.move hs33_7) rfl ?_
              refine WL.pure (v := (.int .i64 (IntKind.i64.wrap (x31 + (1 : Int))))) (PO.add rfl rfl) rfl ?_
              refine WL.pure (v := (.int .i64 (IntKind.i64.wrap (x31 + (1 : Int))))) (PO.assign rfl) rfl ?_
              refine WL.nil ?_
              refine WQ.again (IntKind.i64.wrap (x31 + (1 : Int))) (Option.some.inj h).symm ?_
              exact ⟨(hle30.trans hle33), rfl, hs33_0, hs33_5, hs33_6, rfl⟩
          · have h := ite_f hb32 h
            refine WC.exit ?_
            refine WQ.thenE ?_
            refine WQ.leaveE (Sum.inl ()) (Option.some.inj h).symm (fun heq30 => ?_)
            subst heq30
            have h := elimL hK30
            refine WQ.blockH ?_
            refine WQ.drop ?_
            refine WQ.drop ?_
            refine WQ.thenFE h ?_
            exact ⟨hle30, rfl⟩
      · rintro _ ρ29 M29 H29 rfl ⟨hle29, rfl⟩
        refine WC.seq ?_
        refine WC.region ?_
        obtain ⟨r66, hr67, h⟩ := bnd h
        refine WL.eff (EO.call0 co21 (args0) (f_law13_works_ok _ r66 hr67)) rfl ?_
        rintro _ M68 _ hle69 ⟨_, ⟨rfl, rfl⟩, rfl⟩
        refine WL.a0 ?_
        refine WL.pure (v := (.bool r66)) (PO.assign rfl) rfl ?_
        refine WL.nil ?_
        refine WQ.thenC ?_
        refine WC.ret ?_
        exact WQ.returnsF h [] rfl (results1 rfl rfl) ((((hle10.trans hle15).trans hle23).trans hle29).trans hle69) ⟨rfl, rfl⟩


end Go.Proofs.Ytmifmgpfjamdkaa.G
