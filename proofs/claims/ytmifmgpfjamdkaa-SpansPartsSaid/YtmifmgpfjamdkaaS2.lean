/- Go functions: what they come to, and that they do. Printed by a program of the session (gen). -/
import Derived.Test.YtmifmgpfjamdkaaSF
import Derived.Test.YtmifmgpfjamdkaaS1
set_option linter.unusedVariables false
set_option linter.unusedSimpArgs false
namespace Go.Proofs.Ytmifmgpfjamdkaa.G
open Go Go.KK

noncomputable def f_law13_works : Option Bool :=
  ((f_spans_EndOf [(⟨(0 : Int), (0 : Int)⟩ : T_api_Span), (⟨(1 : Int), (3 : Int)⟩ : T_api_Span), (⟨(4 : Int), (7 : Int)⟩ : T_api_Span)] (3 : Int) (9 : Int)).bind fun (r4, r5, r6) => ((f_spans_Parted [(⟨(0 : Int), (0 : Int)⟩ : T_api_Span), (⟨(1 : Int), (3 : Int)⟩ : T_api_Span), (⟨(4 : Int), (7 : Int)⟩ : T_api_Span)] (9 : Int) (3 : Int) (6 : Int)).bind fun (r16, r17, r18) => ((f_spans_Parted [(⟨(0 : Int), (0 : Int)⟩ : T_api_Span), (⟨(1 : Int), (3 : Int)⟩ : T_api_Span), (⟨(4 : Int), (7 : Int)⟩ : T_api_Span)] (9 : Int) (4 : Int) (9 : Int)).bind fun (r28, r29, r30) => ((f_spans_EndOf [] (3 : Int) (9 : Int)).bind fun (r40, r41, r42) => (((if (decide (r4 = (1 : Int))) = true then (if (decide (r5 = (7 : Int))) = true then (if r6 = true then (if (decide (r16 = (1 : Int))) = true then (if (decide (r17 = (7 : Int))) = true then (if r18 = true then (if (!r30) = true then (if (!r42) = true then ((f_spans_Keep [(⟨(0 : Int), (0 : Int)⟩ : T_api_Span), (⟨(1 : Int), (3 : Int)⟩ : T_api_Span), (⟨(4 : Int), (7 : Int)⟩ : T_api_Span)] (9 : Int) (1 : Int) (5 : Int)).bind fun (r59 : Int) => (if (decide (r59 = (5 : Int))) = true then ((f_spans_Keep [(⟨(0 : Int), (0 : Int)⟩ : T_api_Span), (⟨(1 : Int), (3 : Int)⟩ : T_api_Span), (⟨(4 : Int), (7 : Int)⟩ : T_api_Span)] (9 : Int) (2 : Int) (5 : Int)).bind fun (r68 : Int) => (if (decide (r68 = (7 : Int))) = true then ((f_spans_Add [(⟨(0 : Int), (0 : Int)⟩ : T_api_Span), (⟨(1 : Int), (3 : Int)⟩ : T_api_Span), (⟨(4 : Int), (7 : Int)⟩ : T_api_Span)] (5 : Int) (9 : Int)).bind fun (r77 : (List T_api_Span)) => (if (decide ((r77.length : Int) = (4 : Int))) = true then ((f_spans_Add [(⟨(0 : Int), (0 : Int)⟩ : T_api_Span), (⟨(1 : Int), (3 : Int)⟩ : T_api_Span), (⟨(4 : Int), (7 : Int)⟩ : T_api_Span)] (4 : Int) (9 : Int)).bind fun (r86 : (List T_api_Span)) => (if (decide ((r86.length : Int) = (3 : Int))) = true then ((f_spans_Check [(⟨(0 : Int), (0 : Int)⟩ : T_api_Span), (⟨(1 : Int), (3 : Int)⟩ : T_api_Span), (⟨(4 : Int), (7 : Int)⟩ : T_api_Span)]).bind fun (r95 : GErr) => (some r95.isNil)) else (some false))) else (some false))) else (some false))) else (some false))) else (some false)) else (some false)) else (some false)) else (some false)) else (some false)) else (some false)) else (some false)) else (some false)) : Option Bool).bind fun (x49 : Bool) => (some x49))))))
def f_law13_works_post : Bool → Value → IM → HL → Prop :=
  fun (r0 : Bool) (v : Value) (M' : IM) (H' : HL) => (.bool r0) = v ∧ H' = []
set_option maxHeartbeats 1000000 in
set_option maxRecDepth 100000 in
theorem f_law13_works_ok (M : IM) (res : Bool) (h : f_law13_works = some res) :
    Tri Try.prog 21 #[] M [] (f_law13_works_post res) := by
  unfold f_law13_works at h
  refine Tri.enter (fn := Try.f21) Try.func21 rfl (Nat.le_of_ble_eq_true rfl) ?_
  intro F ρ hρ
  refine WC.seq ?_
  refine WC.region ?_
  refine WL.pure (v := (.bool false)) (PO.assign rfl) rfl ?_
  refine WL.nil ?_
  refine WQ.thenC ?_
  refine WC.seq ?_
  refine WC.region ?_
  refine WL.pure (v := (.agg #[(.int .i64 (0 : Int)), (.int .i64 (0 : Int))])) (PO.buildL (cl := [(.int .i64 (0 : Int)), (.int .i64 (0 : Int))]) ze50 fp50 (Parts.cons (congrArg Value.cells (show ev _ _ = (.int .i64 (0 : Int)) from rfl)) (Parts.cons (congrArg Value.cells (show ev _ _ = (.int .i64 (0 : Int)) from rfl)) Parts.nil)) rfl) rfl ?_
  refine WL.pure (v := (.agg #[(.int .i64 (1 : Int)), (.int .i64 (3 : Int))])) (PO.buildL (cl := [(.int .i64 (1 : Int)), (.int .i64 (3 : Int))]) ze50 fp50 (Parts.cons (congrArg Value.cells (show ev _ _ = (.int .i64 (1 : Int)) from rfl)) (Parts.cons (congrArg Value.cells (show ev _ _ = (.int .i64 (3 : Int)) from rfl)) Parts.nil)) rfl) rfl ?_
  refine WL.pure (v := (.agg #[(.int .i64 (4 : Int)), (.int .i64 (7 : Int))])) (PO.buildL (cl := [(.int .i64 (4 : Int)), (.int .i64 (7 : Int))]) ze50 fp50 (Parts.cons (congrArg Value.cells (show ev _ _ = (.int .i64 (4 : Int)) from rfl)) (Parts.cons (congrArg Value.cells (show ev _ _ = (.int .i64 (7 : Int)) from rfl)) Parts.nil)) rfl) rfl ?_
  refine WL.eff (EO.buildSliceL (cl := [(.int .i64 (0 : Int)), (.int .i64 (0 : Int)), (.int .i64 (1 : Int)), (.int .i64 (3 : Int)), (.int .i64 (4 : Int)), (.int .i64 (7 : Int))]) Try.underlying35 iz50 rfl (Parts.cons (congrArg Value.cells (show ev _ _ = (.agg #[(.int .i64 (0 : Int)), (.int .i64 (0 : Int))]) from rfl)) (Parts.cons (congrArg Value.cells (show ev _ _ = (.agg #[(.int .i64 (1 : Int)), (.int .i64 (3 : Int))]) from rfl)) (Parts.cons (congrArg Value.cells (show ev _ _ = (.agg #[(.int .i64 (4 : Int)), (.int .i64 (7 : Int))]) from rfl)) Parts.nil))) rfl) rfl ?_
  rintro _ _ _ - ⟨rfl, g1, rfl, rfl⟩
  have h3 : OwnS kd_api_Span M (.slice (some ⟨g1, 0, none⟩) 3 3) [(⟨(0 : Int), (0 : Int)⟩ : T_api_Span), (⟨(1 : Int), (3 : Int)⟩ : T_api_Span), (⟨(4 : Int), (7 : Int)⟩ : T_api_Span)] [(g1, .cells #[(.int .i64 (0 : Int)), (.int .i64 (0 : Int)), (.int .i64 (1 : Int)), (.int .i64 (3 : Int)), (.int .i64 (4 : Int)), (.int .i64 (7 : Int))] 50 (0, 0))] := OwnS.rows (css := [[(.int .i64 (0 : Int)), (.int .i64 (0 : Int))], [(.int .i64 (1 : Int)), (.int .i64 (3 : Int))], [(.int .i64 (4 : Int)), (.int .i64 (7 : Int))]]) (Rows.cons (kd_api_Span_mk (x := (⟨(0 : Int), (0 : Int)⟩ : T_api_Span))) (Rows.cons (kd_api_Span_mk (x := (⟨(1 : Int), (3 : Int)⟩ : T_api_Span))) (Rows.cons (kd_api_Span_mk (x := (⟨(4 : Int), (7 : Int)⟩ : T_api_Span))) Rows.nil))) rfl rfl
  refine WL.pure (v := (.slice (some ⟨g1, 0, none⟩) 3 3)) (PO.assign rfl) rfl ?_
  refine WL.nil ?_
  refine WQ.thenC ?_
  refine WC.seq ?_
  refine WC.region ?_
  refine WL.pure (v := (.slice (some ⟨g1, 0, none⟩) 3 3)) (PO.move rfl) rfl ?_
  obtain ⟨⟨r4, r5, r6⟩, hr7, h⟩ := bnd h
  refine WL.eff (EO.call1 co22 (args3 (show ev _ _ = (.slice (some ⟨g1, 0, none⟩) 3 3) from rfl) (show ev _ _ = (.int .i64 (3 : Int)) from rfl) (show ev _ _ = (.int .i64 (9 : Int)) from rfl)) (Tri.lend fun w0_ H0_ hs0_ => (f_spans_EndOf_ok [(⟨(0 : Int), (0 : Int)⟩ : T_api_Span), (⟨(1 : Int), (3 : Int)⟩ : T_api_Span), (⟨(4 : Int), (7 : Int)⟩ : T_api_Span)] (3 : Int) (9 : Int) _ _ (h3.rs hs0_) (r4, r5, r6) hr7))) rfl ?_
  rintro _ _ _ hle9 ⟨_, ⟨Ml13, Hl14, hll15, rfl, rfl, ⟨rfl, rfl⟩⟩, rfl⟩
  have h3 := h3.mono hle9
  refine WL.a1 ?_
  refine WL.pure (v := (.tuple #[(.int .i64 r4), (.int .i64 r5), (.bool r6)])) (PO.move rfl) rfl ?_
  refine WL.pure (v := (.int .i64 r4)) (PO.extract rfl rfl) rfl ?_
  refine WL.pure (v := (.int .i64 r5)) (PO.extract rfl rfl) rfl ?_
  refine WL.pure (v := (.bool r6)) (PO.extract rfl rfl) rfl ?_
  refine WL.pure (v := (.int .i64 r4)) (PO.assign rfl) rfl ?_
  refine WL.pure (v := (.int .i64 r5)) (PO.assign rfl) rfl ?_
  refine WL.pure (v := (.bool r6)) (PO.assign rfl) rfl ?_
  refine WL.nil ?_
  refine WQ.thenC ?_
  refine WC.seq ?_
  refine WC.region ?_
  refine WL.pure (v := (.slice (some ⟨g1, 0, none⟩) 3 3)) (PO.move rfl) rfl ?_
  obtain ⟨⟨r16, r17, r18⟩, hr19, h⟩ := bnd h
  refine WL.eff (EO.call1 co24 (args4 (show ev _ _ = (.slice (some ⟨g1, 0, none⟩) 3 3) from rfl) (show ev _ _ = (.int .i64 (9 : Int)) from rfl) (show ev _ _ = (.int .i64 (3 : Int)) from rfl) (show ev _ _ = (.int .i64 (6 : Int)) from rfl)) (Tri.lend fun w0_ H0_ hs0_ => (f_spans_Parted_ok [(⟨(0 : Int), (0 : Int)⟩ : T_api_Span), (⟨(1 : Int), (3 : Int)⟩ : T_api_Span), (⟨(4 : Int), (7 : Int)⟩ : T_api_Span)] (9 : Int) (3 : Int) (6 : Int) _ _ (h3.rs hs0_) (r16, r17, r18) hr19))) rfl ?_
  rintro _ _ _ hle21 ⟨_, ⟨Ml25, Hl26, hll27, rfl, rfl, ⟨rfl, rfl⟩⟩, rfl⟩
  have h3 := h3.mono hle21
  refine WL.a1 ?_
  refine WL.pure (v := (.tuple #[(.int .i64 r16), (.int .i64 r17), (.bool r18)])) (PO.move rfl) rfl ?_
  refine WL.pure (v := (.int .i64 r16)) (PO.extract rfl rfl) rfl ?_
  refine WL.pure (v := (.int .i64 r17)) (PO.extract rfl rfl) rfl ?_
  refine WL.pure (v := (.bool r18)) (PO.extract rfl rfl) rfl ?_
  refine WL.pure (v := (.int .i64 r16)) (PO.assign rfl) rfl ?_
  refine WL.pure (v := (.int .i64 r17)) (PO.assign rfl) rfl ?_
  refine WL.pure (v := (.bool r18)) (PO.assign rfl) rfl ?_
  refine WL.nil ?_
  refine WQ.thenC ?_
  refine WC.seq ?_
  refine WC.region ?_
  refine WL.pure (v := (.slice (some ⟨g1, 0, none⟩) 3 3)) (PO.move rfl) rfl ?_
  obtain ⟨⟨r28, r29, r30⟩, hr31, h⟩ := bnd h
  refine WL.eff (EO.call1 co24 (args4 (show ev _ _ = (.slice (some ⟨g1, 0, none⟩) 3 3) from rfl) (show ev _ _ = (.int .i64 (9 : Int)) from rfl) (show ev _ _ = (.int .i64 (4 : Int)) from rfl) (show ev _ _ = (.int .i64 (9 : Int)) from rfl)) (Tri.lend fun w0_ H0_ hs0_ => (f_spans_Parted_ok [(⟨(0 : Int), (0 : Int)⟩ : T_api_Span), (⟨(1 : Int), (3 : Int)⟩ : T_api_Span), (⟨(4 : Int), (7 : Int)⟩ : T_api_Span)] (9 : Int) (4 : Int) (9 : Int) _ _ (h3.rs hs0_) (r28, r29, r30) hr31))) rfl ?_
  rintro _ _ _ hle33 ⟨_, ⟨Ml37, Hl38, hll39, rfl, rfl, ⟨rfl, rfl⟩⟩, rfl⟩
  have h3 := h3.mono hle33
  refine WL.a1 ?_
  refine WL.pure (v := (.tuple #[(.int .i64 r28), (.int .i64 r29), (.bool r30)])) (PO.move rfl) rfl ?_
  refine WL.pure (v := (.int .i64 r28)) (PO.extract rfl rfl) rfl ?_
  refine WL.pure (v := (.int .i64 r29)) (PO.extract rfl rfl) rfl ?_
  refine WL.pure (v := (.bool r30)) (PO.extract rfl rfl) rfl ?_
  refine WL.pure (v := (.int .i64 r28)) (PO.assign rfl) rfl ?_
  refine WL.pure (v := (.int .i64 r29)) (PO.assign rfl) rfl ?_
  refine WL.pure (v := (.bool r30)) (PO.assign rfl) rfl ?_
  refine WL.nil ?_
  refine WQ.thenC ?_
  refine WC.seq ?_
  refine WC.region ?_
  obtain ⟨⟨r40, r41, r42⟩, hr43, h⟩ := bnd h
  refine WL.eff (EO.call0 co22 (args3 (show ev _ _ = (.slice none 0 0) from rfl) (show ev _ _ = (.int .i64 (3 : Int)) from rfl) (show ev _ _ = (.int .i64 (9 : Int)) from rfl)) (f_spans_EndOf_ok [] (3 : Int) (9 : Int) _ _ (RS.nil _ _) (r40, r41, r42) hr43)) rfl ?_
  rintro _ M44 _ hle45 ⟨_, ⟨rfl, rfl⟩, rfl⟩
  have h3 := h3.mono hle45
  refine WL.a0 ?_
  refine WL.pure (v := (.tuple #[(.int .i64 r40), (.int .i64 r41), (.bool r42)])) (PO.move rfl) rfl ?_
  refine WL.pure (v := (.int .i64 r40)) (PO.extract rfl rfl) rfl ?_
  refine WL.pure (v := (.int .i64 r41)) (PO.extract rfl rfl) rfl ?_
  refine WL.pure (v := (.bool r42)) (PO.extract rfl rfl) rfl ?_
  refine WL.pure (v := (.int .i64 r40)) (PO.assign rfl) rfl ?_
  refine WL.pure (v := (.int .i64 r41)) (PO.assign rfl) rfl ?_
  refine WL.pure (v := (.bool r42)) (PO.assign rfl) rfl ?_
  refine WL.nil ?_
  refine WQ.thenC ?_
  obtain ⟨x49, hj50, h⟩ := bnd h
  refine WC.joinF (fun (x49 : Bool) (ρ' : Nat → Value) (M' : IM) (H' : HL) => M44.le M' ∧ F = H' ∧ ρ' 0 = (.bool x49)) x49 ?_ ?_
  · have h350 := h
    have h := hj50
    refine WC.region ?_
    refine WL.pure (v := (.int .i64 r4)) (PO.move rfl) rfl ?_
    refine WL.pure (v := (.bool (decide (r4 = (1 : Int))))) (PO.eql rfl rfl) rfl ?_
    refine WL.pure (v := (.bool (decide (r4 = (1 : Int))))) (PO.move rfl) rfl ?_
    rcases Bool.eq_false_or_eq_true (decide (r4 = (1 : Int))) with hb51 | hb51
    · have h := ite_t hb51 h
      refine WL.on 43 rfl rfl hb51 ?_
      refine WL.pure (v := (.int .i64 r5)) (PO.move rfl) rfl ?_
      refine WL.on 43 rfl rfl hb51 ?_
      refine WL.pure (v := (.bool (decide (r5 = (7 : Int))))) (PO.eql rfl rfl) rfl ?_
      refine WL.pure (v := (.bool (decide (r5 = (7 : Int))))) (PO.pickT rfl hb51 rfl) rfl ?_
      refine WL.pure (v := (.bool (decide (r5 = (7 : Int))))) (PO.move rfl) rfl ?_
      rcases Bool.eq_false_or_eq_true (decide (r5 = (7 : Int))) with hb52 | hb52
      · have h := ite_t hb52 h
        refine WL.on 47 rfl rfl hb52 ?_
        refine WL.pure (v := (.bool r6)) (PO.move rfl) rfl ?_
        refine WL.pure (v := (.bool r6)) (PO.pickT rfl hb52 rfl) rfl ?_
        refine WL.pure (v := (.bool r6)) (PO.move rfl) rfl ?_
        rcases Bool.eq_false_or_eq_true (r6) with hb53 | hb53
        · have h := ite_t hb53 h
          refine WL.on 50 rfl rfl hb53 ?_
          refine WL.pure (v := (.int .i64 r16)) (PO.move rfl) rfl ?_
          refine WL.on 50 rfl rfl hb53 ?_
          refine WL.pure (v := (.bool (decide (r16 = (1 : Int))))) (PO.eql rfl rfl) rfl ?_
          refine WL.pure (v := (.bool (decide (r16 = (1 : Int))))) (PO.pickT rfl hb53 rfl) rfl ?_
          refine WL.pure (v := (.bool (decide (r16 = (1 : Int))))) (PO.move rfl) rfl ?_
          rcases Bool.eq_false_or_eq_true (decide (r16 = (1 : Int))) with hb54 | hb54
          · have h := ite_t hb54 h
            refine WL.on 54 rfl rfl hb54 ?_
            refine WL.pure (v := (.int .i64 r17)) (PO.move rfl) rfl ?_
            refine WL.on 54 rfl rfl hb54 ?_
            refine WL.pure (v := (.bool (decide (r17 = (7 : Int))))) (PO.eql rfl rfl) rfl ?_
            refine WL.pure (v := (.bool (decide (r17 = (7 : Int))))) (PO.pickT rfl hb54 rfl) rfl ?_
            refine WL.pure (v := (.bool (decide (r17 = (7 : Int))))) (PO.move rfl) rfl ?_
            rcases Bool.eq_false_or_eq_true (decide (r17 = (7 : Int))) with hb55 | hb55
            · have h := ite_t hb55 h
              refine WL.on 58 rfl rfl hb55 ?_
              refine WL.pure (v := (.bool r18)) (PO.move rfl) rfl ?_
              refine WL.pure (v := (.bool r18)) (PO.pickT rfl hb55 rfl) rfl ?_
              refine WL.pure (v := (.bool r18)) (PO.move rfl) rfl ?_
              rcases Bool.eq_false_or_eq_true (r18) with hb56 | hb56
              · have h := ite_t hb56 h
                refine WL.on 61 rfl rfl hb56 ?_
                refine WL.pure (v := (.bool r30)) (PO.move rfl) rfl ?_
                refine WL.on 61 rfl rfl hb56 ?_
                refine WL.pure (v := (.bool (!r30))) (PO.not rfl) rfl ?_
                refine WL.pure (v := (.bool (!r30))) (PO.pickT rfl hb56 rfl) rfl ?_
                refine WL.pure (v := (.bool (!r30))) (PO.move rfl) rfl ?_
                rcases Bool.eq_false_or_eq_true (!r30) with hb57 | hb57
                · have h := ite_t hb57 h
                  refine WL.on 65 rfl rfl hb57 ?_
                  refine WL.pure (v := (.bool r42)) (PO.move rfl) rfl ?_
                  refine WL.on 65 rfl rfl hb57 ?_
                  refine WL.pure (v := (.bool (!r42))) (PO.not rfl) rfl ?_
                  refine WL.pure (v := (.bool (!r42))) (PO.pickT rfl hb57 rfl) rfl ?_
                  refine WL.pure (v := (.bool (!r42))) (PO.move rfl) rfl ?_
                  rcases Bool.eq_false_or_eq_true (!r42) with hb58 | hb58
                  · have h := ite_t hb58 h
                    refine WL.on 69 rfl rfl hb58 ?_
                    refine WL.pure (v := (.slice (some ⟨g1, 0, none⟩) 3 3)) (PO.move rfl) rfl ?_
                    refine WL.on 69 rfl rfl hb58 ?_
                    obtain ⟨r59, hr60, h⟩ := bnd h
                    refine WL.eff (EO.call1 co26 (args4 (show ev _ _ = (.slice (some ⟨g1, 0, none⟩) 3 3) from rfl) (show ev _ _ = (.int .i64 (9 : Int)) from rfl) (show ev _ _ = (.int .i64 (1 : Int)) from rfl) (show ev _ _ = (.int .i64 (5 : Int)) from rfl)) (Tri.lend fun w0_ H0_ hs0_ => (f_spans_Keep_ok [(⟨(0 : Int), (0 : Int)⟩ : T_api_Span), (⟨(1 : Int), (3 : Int)⟩ : T_api_Span), (⟨(4 : Int), (7 : Int)⟩ : T_api_Span)] (9 : Int) (1 : Int) (5 : Int) _ _ (h3.rs hs0_) r59 hr60))) rfl ?_
                    rintro _ _ _ hle62 ⟨_, ⟨Ml64, Hl65, hll66, rfl, rfl, ⟨rfl, rfl⟩⟩, rfl⟩
                    have h3 := h3.mono hle62
                    refine WL.a1 ?_
                    refine WL.on 69 rfl rfl hb58 ?_
                    refine WL.pure (v := (.bool (decide (r59 = (5 : Int))))) (PO.eql rfl rfl) rfl ?_
                    refine WL.pure (v := (.bool (decide (r59 = (5 : Int))))) (PO.pickT rfl hb58 rfl) rfl ?_
                    refine WL.pure (v := (.bool (decide (r59 = (5 : Int))))) (PO.move rfl) rfl ?_
                    rcases Bool.eq_false_or_eq_true (decide (r59 = (5 : Int))) with hb67 | hb67
                    · have h := ite_t hb67 h
                      refine WL.on 74 rfl rfl hb67 ?_
                      refine WL.pure (v := (.slice (some ⟨g1, 0, none⟩) 3 3)) (PO.move rfl) rfl ?_
                      refine WL.on 74 rfl rfl hb67 ?_
                      obtain ⟨r68, hr69, h⟩ := bnd h
                      refine WL.eff (EO.call1 co26 (args4 (show ev _ _ = (.slice (some ⟨g1, 0, none⟩) 3 3) from rfl) (show ev _ _ = (.int .i64 (9 : Int)) from rfl) (show ev _ _ = (.int .i64 (2 : Int)) from rfl) (show ev _ _ = (.int .i64 (5 : Int)) from rfl)) (Tri.lend fun w0_ H0_ hs0_ => (f_spans_Keep_ok [(⟨(0 : Int), (0 : Int)⟩ : T_api_Span), (⟨(1 : Int), (3 : Int)⟩ : T_api_Span), (⟨(4 : Int), (7 : Int)⟩ : T_api_Span)] (9 : Int) (2 : Int) (5 : Int) _ _ (h3.rs hs0_) r68 hr69))) rfl ?_
                      rintro _ _ _ hle71 ⟨_, ⟨Ml73, Hl74, hll75, rfl, rfl, ⟨rfl, rfl⟩⟩, rfl⟩
                      have h3 := h3.mono hle71
                      refine WL.a1 ?_
                      refine WL.on 74 rfl rfl hb67 ?_
                      refine WL.pure (v := (.bool (decide (r68 = (7 : Int))))) (PO.eql rfl rfl) rfl ?_
                      refine WL.pure (v := (.bool (decide (r68 = (7 : Int))))) (PO.pickT rfl hb67 rfl) rfl ?_
                      refine WL.pure (v := (.bool (decide (r68 = (7 : Int))))) (PO.move rfl) rfl ?_
                      rcases Bool.eq_false_or_eq_true (decide (r68 = (7 : Int))) with hb76 | hb76
                      · have h := ite_t hb76 h
                        refine WL.on 79 rfl rfl hb76 ?_
                        refine WL.pure (v := (.slice (some ⟨g1, 0, none⟩) 3 3)) (PO.move rfl) rfl ?_
                        refine WL.on 79 rfl rfl hb76 ?_
                        obtain ⟨r77, hr78, h⟩ := bnd h
                        refine WL.eff (EO.call1 co34 (args3 (show ev _ _ = (.slice (some ⟨g1, 0, none⟩) 3 3) from rfl) (show ev _ _ = (.int .i64 (5 : Int)) from rfl) (show ev _ _ = (.int .i64 (9 : Int)) from rfl)) (Tri.lend fun w0_ H0_ hs0_ => (f_spans_Add_ok [(⟨(0 : Int), (0 : Int)⟩ : T_api_Span), (⟨(1 : Int), (3 : Int)⟩ : T_api_Span), (⟨(4 : Int), (7 : Int)⟩ : T_api_Span)] (5 : Int) (9 : Int) _ _ (h3.rs hs0_) r77 hr78))) rfl ?_
                        rintro _ _ _ hle80 ⟨_, ⟨Ml82, Hl83, hll84, rfl, rfl, ⟨vq81, cq81, rfl, rfl, hq81⟩⟩, rfl⟩
                        have h3 := h3.mono hle80
                        have hq81 : OwnS kd_api_Span (Ml82.minus [(g1, .cells #[(.int .i64 (0 : Int)), (.int .i64 (0 : Int)), (.int .i64 (1 : Int)), (.int .i64 (3 : Int)), (.int .i64 (4 : Int)), (.int .i64 (7 : Int))] 50 (0, 0))]) vq81 r77 cq81 := hq81.any kd_api_Span_flat
                        refine WL.a2 ?_
                        refine WL.on 79 rfl rfl hb76 ?_
                        refine WL.pure (v := (.int .i64 (r77.length : Int))) (PO.lenS Try.underlying35 rfl hq81.len) rfl ?_
                        refine WL.on 79 rfl rfl hb76 ?_
                        refine WL.pure (v := (.bool (decide ((r77.length : Int) = (4 : Int))))) (PO.eql rfl rfl) rfl ?_
                        refine WL.pure (v := (.bool (decide ((r77.length : Int) = (4 : Int))))) (PO.pickT rfl hb76 rfl) rfl ?_
                        refine WL.pure (v := (.bool (decide ((r77.length : Int) = (4 : Int))))) (PO.move rfl) rfl ?_
                        rcases Bool.eq_false_or_eq_true (decide ((r77.length : Int) = (4 : Int))) with hb85 | hb85
                        · have h := ite_t hb85 h
                          refine WL.on 85 rfl rfl hb85 ?_
                          refine WL.pure (v := (.slice (some ⟨g1, 0, none⟩) 3 3)) (PO.move rfl) rfl ?_
                          refine WL.on 85 rfl rfl hb85 ?_
                          obtain ⟨r86, hr87, h⟩ := bnd h
                          refine WL.eff (EO.call1 co34 (args3 (show ev _ _ = (.slice (some ⟨g1, 0, none⟩) 3 3) from rfl) (show ev _ _ = (.int .i64 (4 : Int)) from rfl) (show ev _ _ = (.int .i64 (9 : Int)) from rfl)) (Tri.lend fun w0_ H0_ hs0_ => (f_spans_Add_ok [(⟨(0 : Int), (0 : Int)⟩ : T_api_Span), (⟨(1 : Int), (3 : Int)⟩ : T_api_Span), (⟨(4 : Int), (7 : Int)⟩ : T_api_Span)] (4 : Int) (9 : Int) _ _ (h3.rs hs0_) r86 hr87))) rfl ?_
                          rintro _ _ _ hle89 ⟨_, ⟨Ml91, Hl92, hll93, rfl, rfl, ⟨vq90, cq90, rfl, rfl, hq90⟩⟩, rfl⟩
                          have h3 := h3.mono hle89
                          have hq81 := hq81.mono hle89
                          have hq90 : OwnS kd_api_Span (Ml91.minus [(g1, .cells #[(.int .i64 (0 : Int)), (.int .i64 (0 : Int)), (.int .i64 (1 : Int)), (.int .i64 (3 : Int)), (.int .i64 (4 : Int)), (.int .i64 (7 : Int))] 50 (0, 0))]) vq90 r86 cq90 := hq90.any kd_api_Span_flat
                          refine WL.a2 ?_
                          refine WL.on 85 rfl rfl hb85 ?_
                          refine WL.pure (v := (.int .i64 (r86.length : Int))) (PO.lenS Try.underlying35 rfl hq90.len) rfl ?_
                          refine WL.on 85 rfl rfl hb85 ?_
                          refine WL.pure (v := (.bool (decide ((r86.length : Int) = (3 : Int))))) (PO.eql rfl rfl) rfl ?_
                          refine WL.pure (v := (.bool (decide ((r86.length : Int) = (3 : Int))))) (PO.pickT rfl hb85 rfl) rfl ?_
                          refine WL.pure (v := (.bool (decide ((r86.length : Int) = (3 : Int))))) (PO.move rfl) rfl ?_
                          rcases Bool.eq_false_or_eq_true (decide ((r86.length : Int) = (3 : Int))) with hb94 | hb94
                          · have h := ite_t hb94 h
                            refine WL.on 91 rfl rfl hb94 ?_
                            refine WL.pure (v := (.slice (some ⟨g1, 0, none⟩) 3 3)) (PO.move rfl) rfl ?_
                            refine WL.on 91 rfl rfl hb94 ?_
                            obtain ⟨r95, hr96, h⟩ := bnd h
                            refine WL.eff (EO.call1 co30 (args1 (show ev _ _ = (.slice (some ⟨g1, 0, none⟩) 3 3) from rfl)) (Tri.lend fun w0_ H0_ hs0_ => (f_spans_Check_ok [(⟨(0 : Int), (0 : Int)⟩ : T_api_Span), (⟨(1 : Int), (3 : Int)⟩ : T_api_Span), (⟨(4 : Int), (7 : Int)⟩ : T_api_Span)] _ _ (h3.rs hs0_) r95 hr96))) rfl ?_
                            rintro _ _ _ hle98 ⟨_, ⟨Ml100, Hl101, hll102, rfl, rfl, ⟨rfl, rfl⟩⟩, rfl⟩
                            have h3 := h3.mono hle98
                            have hq81 := hq81.mono hle98
                            have hq90 := hq90.mono hle98
                            refine WL.a1 ?_
                            refine WL.on 91 rfl rfl hb94 ?_
                            refine WL.pure (v := (.bool r95.isNil)) (PO.errNil Try.underlying47 rfl) rfl ?_
                            refine WL.pure (v := (.bool r95.isNil)) (PO.pickT rfl hb94 rfl) rfl ?_
                            refine WL.pure (v := (.bool r95.isNil)) (PO.assign rfl) rfl ?_
                            refine WL.nil ?_
                            refine WQ.drop ?_
                            refine WQ.drop ?_
                            refine WQ.drop ?_
                            obtain rfl := Option.some.inj h
                            refine WQ.thenJ ?_
                            exact ⟨((((hle62.trans hle71).trans hle80).trans hle89).trans hle98), rfl, rfl⟩
                          · have h := ite_f hb94 h
                            refine WL.off 91 rfl rfl hb94 rfl ?_
                            refine WL.off 91 rfl rfl hb94 rfl ?_
                            refine WL.off 91 rfl rfl hb94 rfl ?_
                            refine WL.pure (v := (.bool false)) (PO.pickF rfl hb94 rfl) rfl ?_
                            refine WL.pure (v := (.bool false)) (PO.assign rfl) rfl ?_
                            refine WL.nil ?_
                            refine WQ.drop ?_
                            refine WQ.drop ?_
                            refine WQ.drop ?_
                            obtain rfl := Option.some.inj h
                            refine WQ.thenJ ?_
                            exact ⟨(((hle62.trans hle71).trans hle80).trans hle89), rfl, rfl⟩
                        · have h := ite_f hb85 h
                          refine WL.off 85 rfl rfl hb85 rfl ?_
                          refine WL.off 85 rfl rfl hb85 rfl ?_
                          refine WL.off 85 rfl rfl hb85 rfl ?_
                          refine WL.off 85 rfl rfl hb85 rfl ?_
                          refine WL.pure (v := (.bool false)) (PO.pickF rfl hb85 rfl) rfl ?_
                          refine WL.pure (v := (.bool false)) (PO.move rfl) rfl ?_
                          refine WL.off 91 rfl rfl rfl rfl ?_
                          refine WL.off 91 rfl rfl rfl rfl ?_
                          refine WL.off 91 rfl rfl rfl rfl ?_
                          refine WL.pure (v := (.bool false)) (PO.pickF rfl rfl rfl) rfl ?_
                          refine WL.pure (v := (.bool false)) (PO.assign rfl) rfl ?_
                          refine WL.nil ?_
                          refine WQ.drop ?_
                          refine WQ.drop ?_
                          obtain rfl := Option.some.inj h
                          refine WQ.thenJ ?_
                          exact ⟨((hle62.trans hle71).trans hle80), rfl, rfl⟩
                      · have h := ite_f hb76 h
                        refine WL.off 79 rfl rfl hb76 rfl ?_
                        refine WL.off 79 rfl rfl hb76 rfl ?_
                        refine WL.off 79 rfl rfl hb76 rfl ?_
                        refine WL.off 79 rfl rfl hb76 rfl ?_
                        refine WL.pure (v := (.bool false)) (PO.pickF rfl hb76 rfl) rfl ?_
                        refine WL.pure (v := (.bool false)) (PO.move rfl) rfl ?_
                        refine WL.off 85 rfl rfl rfl rfl ?_
                        refine WL.off 85 rfl rfl rfl rfl ?_
                        refine WL.off 85 rfl rfl rfl rfl ?_
                        refine WL.off 85 rfl rfl rfl rfl ?_
                        refine WL.pure (v := (.bool false)) (PO.pickF rfl rfl rfl) rfl ?_
                        refine WL.pure (v := (.bool false)) (PO.move rfl) rfl ?_
                        refine WL.off 91 rfl rfl rfl rfl ?_
                        refine WL.off 91 rfl rfl rfl rfl ?_
                        refine WL.off 91 rfl rfl rfl rfl ?_
                        refine WL.pure (v := (.bool false)) (PO.pickF rfl rfl rfl) rfl ?_
                        refine WL.pure (v := (.bool false)) (PO.assign rfl) rfl ?_
                        refine WL.nil ?_
                        refine WQ.drop ?_
                        obtain rfl := Option.some.inj h
                        refine WQ.thenJ ?_
                        exact ⟨(hle62.trans hle71), rfl, rfl⟩
                    · have h := ite_f hb67 h
                      refine WL.off 74 rfl rfl hb67 rfl ?_
                      refine WL.off 74 rfl rfl hb67 rfl ?_
                      refine WL.off 74 rfl rfl hb67 rfl ?_
                      refine WL.pure (v := (.bool false)) (PO.pickF rfl hb67 rfl) rfl ?_
                      refine WL.pure (v := (.bool false)) (PO.move rfl) rfl ?_
                      refine WL.off 79 rfl rfl rfl rfl ?_
                      refine WL.off 79 rfl rfl rfl rfl ?_
                      refine WL.off 79 rfl rfl rfl rfl ?_
                      refine WL.off 79 rfl rfl rfl rfl ?_
                      refine WL.pure (v := (.bool false)) (PO.pickF rfl rfl rfl) rfl ?_
                      refine WL.pure (v := (.bool false)) (PO.move rfl) rfl ?_
                      refine WL.off 85 rfl rfl rfl rfl ?_
                      refine WL.off 85 rfl rfl rfl rfl ?_
                      refine WL.off 85 rfl rfl rfl rfl ?_
                      refine WL.off 85 rfl rfl rfl rfl ?_
                      refine WL.pure (v := (.bool false)) (PO.pickF rfl rfl rfl) rfl ?_
                      refine WL.pure (v := (.bool false)) (PO.move rfl) rfl ?_
                      refine WL.off 91 rfl rfl rfl rfl ?_
                      refine WL.off 91 rfl rfl rfl rfl ?_
                      refine WL.off 91 rfl rfl rfl rfl ?_
                      refine WL.pure (v := (.bool false)) (PO.pickF rfl rfl rfl) rfl ?_
                      refine WL.pure (v := (.bool false)) (PO.assign rfl) rfl ?_
                      refine WL.nil ?_
                      refine WQ.drop ?_
                      obtain rfl := Option.some.inj h
                      refine WQ.thenJ ?_
                      exact ⟨hle62, rfl, rfl⟩
                  · have h := ite_f hb58 h
                    refine WL.off 69 rfl rfl hb58 rfl ?_
                    refine WL.off 69 rfl rfl hb58 rfl ?_
                    refine WL.off 69 rfl rfl hb58 rfl ?_
                    refine WL.pure (v := (.bool false)) (PO.pickF rfl hb58 rfl) rfl ?_
                    refine WL.pure (v := (.bool false)) (PO.move rfl) rfl ?_
                    refine WL.off 74 rfl rfl rfl rfl ?_
                    refine WL.off 74 rfl rfl rfl rfl ?_
                    refine WL.off 74 rfl rfl rfl rfl ?_
                    refine WL.pure (v := (.bool false)) (PO.pickF rfl rfl rfl) rfl ?_
                    refine WL.pure (v := (.bool false)) (PO.move rfl) rfl ?_
                    refine WL.off 79 rfl rfl rfl rfl ?_
                    refine WL.off 79 rfl rfl rfl rfl ?_
                    refine WL.off 79 rfl rfl rfl rfl ?_
                    refine WL.off 79 rfl rfl rfl rfl ?_
                    refine WL.pure (v := (.bool false)) (PO.pickF rfl rfl rfl) rfl ?_
                    refine WL.pure (v := (.bool false)) (PO.move rfl) rfl ?_
                    refine WL.off 85 rfl rfl rfl rfl ?_
                    refine WL.off 85 rfl rfl rfl rfl ?_
                    refine WL.off 85 rfl rfl rfl rfl ?_
                    refine WL.off 85 rfl rfl rfl rfl ?_
                    refine WL.pure (v := (.bool false)) (PO.pickF rfl rfl rfl) rfl ?_
                    refine WL.pure (v := (.bool false)) (PO.move rfl) rfl ?_
                    refine WL.off 91 rfl rfl rfl rfl ?_
                    refine WL.off 91 rfl rfl rfl rfl ?_
                    refine WL.off 91 rfl rfl rfl rfl ?_
                    refine WL.pure (v := (.bool false)) (PO.pickF rfl rfl rfl) rfl ?_
                    refine WL.pure (v := (.bool false)) (PO.assign rfl) rfl ?_
                    refine WL.nil ?_
                    refine WQ.drop ?_
                    obtain rfl := Option.some.inj h
                    refine WQ.thenJ ?_
                    exact ⟨(IM.le.refl _), rfl, rfl⟩
                · have h := ite_f hb57 h
                  refine WL.off 65 rfl rfl hb57 rfl ?_
                  refine WL.off 65 rfl rfl hb57 rfl ?_
                  refine WL.pure (v := (.bool false)) (PO.pickF rfl hb57 rfl) rfl ?_
                  refine WL.pure (v := (.bool false)) (PO.move rfl) rfl ?_
                  refine WL.off 69 rfl rfl rfl rfl ?_
                  refine WL.off 69 rfl rfl rfl rfl ?_
                  refine WL.off 69 rfl rfl rfl rfl ?_
                  refine WL.pure (v := (.bool false)) (PO.pickF rfl rfl rfl) rfl ?_
                  refine WL.pure (v := (.bool false)) (PO.move rfl) rfl ?_
                  refine WL.off 74 rfl rfl rfl rfl ?_
                  refine WL.off 74 rfl rfl rfl rfl ?_
                  refine WL.off 74 rfl rfl rfl rfl ?_
                  refine WL.pure (v := (.bool false)) (PO.pickF rfl rfl rfl) rfl ?_
                  refine WL.pure (v := (.bool false)) (PO.move rfl) rfl ?_
                  refine WL.off 79 rfl rfl rfl rfl ?_
                  refine WL.off 79 rfl rfl rfl rfl ?_
                  refine WL.off 79 rfl rfl rfl rfl ?_
                  refine WL.off 79 rfl rfl rfl rfl ?_
                  refine WL.pure (v := (.bool false)) (PO.pickF rfl rfl rfl) rfl ?_
                  refine WL.pure (v := (.bool false)) (PO.move rfl) rfl ?_
                  refine WL.off 85 rfl rfl rfl rfl ?_
                  refine WL.off 85 rfl rfl rfl rfl ?_
                  refine WL.off 85 rfl rfl rfl rfl ?_
                  refine WL.off 85 rfl rfl rfl rfl ?_
                  refine WL.pure (v := (.bool false)) (PO.pickF rfl rfl rfl) rfl ?_
                  refine WL.pure (v := (.bool false)) (PO.move rfl) rfl ?_
                  refine WL.off 91 rfl rfl rfl rfl ?_
                  refine WL.off 91 rfl rfl rfl rfl ?_
                  refine WL.off 91 rfl rfl rfl rfl ?_
                  refine WL.pure (v := (.bool false)) (PO.pickF rfl rfl rfl) rfl ?_
                  refine WL.pure (v := (.bool false)) (PO.assign rfl) rfl ?_
                  refine WL.nil ?_
                  refine WQ.drop ?_
                  obtain rfl := Option.some.inj h
                  refine WQ.thenJ ?_
                  exact ⟨(IM.le.refl _), rfl, rfl⟩
              · have h := ite_f hb56 h
                refine WL.off 61 rfl rfl hb56 rfl ?_
                refine WL.off 61 rfl rfl hb56 rfl ?_
                refine WL.pure (v := (.bool false)) (PO.pickF rfl hb56 rfl) rfl ?_
                refine WL.pure (v := (.bool false)) (PO.move rfl) rfl ?_
                refine WL.off 65 rfl rfl rfl rfl ?_
                refine WL.off 65 rfl rfl rfl rfl ?_
                refine WL.pure (v := (.bool false)) (PO.pickF rfl rfl rfl) rfl ?_
                refine WL.pure (v := (.bool false)) (PO.move rfl) rfl ?_
                refine WL.off 69 rfl rfl rfl rfl ?_
                refine WL.off 69 rfl rfl rfl rfl ?_
                refine WL.off 69 rfl rfl rfl rfl ?_
                refine WL.pure (v := (.bool false)) (PO.pickF rfl rfl rfl) rfl ?_
                refine WL.pure (v := (.bool false)) (PO.move rfl) rfl ?_
                refine WL.off 74 rfl rfl rfl rfl ?_
                refine WL.off 74 rfl rfl rfl rfl ?_
                refine WL.off 74 rfl rfl rfl rfl ?_
                refine WL.pure (v := (.bool false)) (PO.pickF rfl rfl rfl) rfl ?_
                refine WL.pure (v := (.bool false)) (PO.move rfl) rfl ?_
                refine WL.off 79 rfl rfl rfl rfl ?_
                refine WL.off 79 rfl rfl rfl rfl ?_
                refine WL.off 79 rfl rfl rfl rfl ?_
                refine WL.off 79 rfl rfl rfl rfl ?_
                refine WL.pure (v := (.bool false)) (PO.pickF rfl rfl rfl) rfl ?_
                refine WL.pure (v := (.bool false)) (PO.move rfl) rfl ?_
                refine WL.off 85 rfl rfl rfl rfl ?_
                refine WL.off 85 rfl rfl rfl rfl ?_
                refine WL.off 85 rfl rfl rfl rfl ?_
                refine WL.off 85 rfl rfl rfl rfl ?_
                refine WL.pure (v := (.bool false)) (PO.pickF rfl rfl rfl) rfl ?_
                refine WL.pure (v := (.bool false)) (PO.move rfl) rfl ?_
                refine WL.off 91 rfl rfl rfl rfl ?_
                refine WL.off 91 rfl rfl rfl rfl ?_
                refine WL.off 91 rfl rfl rfl rfl ?_
                refine WL.pure (v := (.bool false)) (PO.pickF rfl rfl rfl) rfl ?_
                refine WL.pure (v := (.bool false)) (PO.assign rfl) rfl ?_
                refine WL.nil ?_
                refine WQ.drop ?_
                obtain rfl := Option.some.inj h
                refine WQ.thenJ ?_
                exact ⟨(IM.le.refl _), rfl, rfl⟩
            · have h := ite_f hb55 h
              refine WL.off 58 rfl rfl hb55 rfl ?_
              refine WL.pure (v := (.bool false)) (PO.pickF rfl hb55 rfl) rfl ?_
              refine WL.pure (v := (.bool false)) (PO.move rfl) rfl ?_
              refine WL.off 61 rfl rfl rfl rfl ?_
              refine WL.off 61 rfl rfl rfl rfl ?_
              refine WL.pure (v := (.bool false)) (PO.pickF rfl rfl rfl) rfl ?_
              refine WL.pure (v := (.bool false)) (PO.move rfl) rfl ?_
              refine WL.off 65 rfl rfl rfl rfl ?_
              refine WL.off 65 rfl rfl rfl rfl ?_
              refine WL.pure (v := (.bool false)) (PO.pickF rfl rfl rfl) rfl ?_
              refine WL.pure (v := (.bool false)) (PO.move rfl) rfl ?_
              refine WL.off 69 rfl rfl rfl rfl ?_
              refine WL.off 69 rfl rfl rfl rfl ?_
              refine WL.off 69 rfl rfl rfl rfl ?_
              refine WL.pure (v := (.bool false)) (PO.pickF rfl rfl rfl) rfl ?_
              refine WL.pure (v := (.bool false)) (PO.move rfl) rfl ?_
              refine WL.off 74 rfl rfl rfl rfl ?_
              refine WL.off 74 rfl rfl rfl rfl ?_
              refine WL.off 74 rfl rfl rfl rfl ?_
              refine WL.pure (v := (.bool false)) (PO.pickF rfl rfl rfl) rfl ?_
              refine WL.pure (v := (.bool false)) (PO.move rfl) rfl ?_
              refine WL.off 79 rfl rfl rfl rfl ?_
              refine WL.off 79 rfl rfl rfl rfl ?_
              refine WL.off 79 rfl rfl rfl rfl ?_
              refine WL.off 79 rfl rfl rfl rfl ?_
              refine WL.pure (v := (.bool false)) (PO.pickF rfl rfl rfl) rfl ?_
              refine WL.pure (v := (.bool false)) (PO.move rfl) rfl ?_
              refine WL.off 85 rfl rfl rfl rfl ?_
              refine WL.off 85 rfl rfl rfl rfl ?_
              refine WL.off 85 rfl rfl rfl rfl ?_
              refine WL.off 85 rfl rfl rfl rfl ?_
              refine WL.pure (v := (.bool false)) (PO.pickF rfl rfl rfl) rfl ?_
              refine WL.pure (v := (.bool false)) (PO.move rfl) rfl ?_
              refine WL.off 91 rfl rfl rfl rfl ?_
              refine WL.off 91 rfl rfl rfl rfl ?_
              refine WL.off 91 rfl rfl rfl rfl ?_
              refine WL.pure (v := (.bool false)) (PO.pickF rfl rfl rfl) rfl ?_
              refine WL.pure (v := (.bool false)) (PO.assign rfl) rfl ?_
              refine WL.nil ?_
              refine WQ.drop ?_
              obtain rfl := Option.some.inj h
              refine WQ.thenJ ?_
              exact ⟨(IM.le.refl _), rfl, rfl⟩
          · have h := ite_f hb54 h
            refine WL.off 54 rfl rfl hb54 rfl ?_
            refine WL.off 54 rfl rfl hb54 rfl ?_
            refine WL.pure (v := (.bool false)) (PO.pickF rfl hb54 rfl) rfl ?_
            refine WL.pure (v := (.bool false)) (PO.move rfl) rfl ?_
            refine WL.off 58 rfl rfl rfl rfl ?_
            refine WL.pure (v := (.bool false)) (PO.pickF rfl rfl rfl) rfl ?_
            refine WL.pure (v := (.bool false)) (PO.move rfl) rfl ?_
            refine WL.off 61 rfl rfl rfl rfl ?_
            refine WL.off 61 rfl rfl rfl rfl ?_
            refine WL.pure (v := (.bool false)) (PO.pickF rfl rfl rfl) rfl ?_
            refine WL.pure (v := (.bool false)) (PO.move rfl) rfl ?_
            refine WL.off 65 rfl rfl rfl rfl ?_
            refine WL.off 65 rfl rfl rfl rfl ?_
            refine WL.pure (v := (.bool false)) (PO.pickF rfl rfl rfl) rfl ?_
            refine WL.pure (v := (.bool false)) (PO.move rfl) rfl ?_
            refine WL.off 69 rfl rfl rfl rfl ?_
            refine WL.off 69 rfl rfl rfl rfl ?_
            refine WL.off 69 rfl rfl rfl rfl ?_
            refine WL.pure (v := (.bool false)) (PO.pickF rfl rfl rfl) rfl ?_
            refine WL.pure (v := (.bool false)) (PO.move rfl) rfl ?_
            refine WL.off 74 rfl rfl rfl rfl ?_
            refine WL.off 74 rfl rfl rfl rfl ?_
            refine WL.off 74 rfl rfl rfl rfl ?_
            refine WL.pure (v := (.bool false)) (PO.pickF rfl rfl rfl) rfl ?_
            refine WL.pure (v := (.bool false)) (PO.move rfl) rfl ?_
            refine WL.off 79 rfl rfl rfl rfl ?_
            refine WL.off 79 rfl rfl rfl rfl ?_
            refine WL.off 79 rfl rfl rfl rfl ?_
            refine WL.off 79 rfl rfl rfl rfl ?_
            refine WL.pure (v := (.bool false)) (PO.pickF rfl rfl rfl) rfl ?_
            refine WL.pure (v := (.bool false)) (PO.move rfl) rfl ?_
            refine WL.off 85 rfl rfl rfl rfl ?_
            refine WL.off 85 rfl rfl rfl rfl ?_
            refine WL.off 85 rfl rfl rfl rfl ?_
            refine WL.off 85 rfl rfl rfl rfl ?_
            refine WL.pure (v := (.bool false)) (PO.pickF rfl rfl rfl) rfl ?_
            refine WL.pure (v := (.bool false)) (PO.move rfl) rfl ?_
            refine WL.off 91 rfl rfl rfl rfl ?_
            refine WL.off 91 rfl rfl rfl rfl ?_
            refine WL.off 91 rfl rfl rfl rfl ?_
            refine WL.pure (v := (.bool false)) (PO.pickF rfl rfl rfl) rfl ?_
            refine WL.pure (v := (.bool false)) (PO.assign rfl) rfl ?_
            refine WL.nil ?_
            refine WQ.drop ?_
            obtain rfl := Option.some.inj h
            refine WQ.thenJ ?_
            exact ⟨(IM.le.refl _), rfl, rfl⟩
        · have h := ite_f hb53 h
          refine WL.off 50 rfl rfl hb53 rfl ?_
          refine WL.off 50 rfl rfl hb53 rfl ?_
          refine WL.pure (v := (.bool false)) (PO.pickF rfl hb53 rfl) rfl ?_
          refine WL.pure (v := (.bool false)) (PO.move rfl) rfl ?_
          refine WL.off 54 rfl rfl rfl rfl ?_
          refine WL.off 54 rfl rfl rfl rfl ?_
          refine WL.pure (v := (.bool false)) (PO.pickF rfl rfl rfl) rfl ?_
          refine WL.pure (v := (.bool false)) (PO.move rfl) rfl ?_
          refine WL.off 58 rfl rfl rfl rfl ?_
          refine WL.pure (v := (.bool false)) (PO.pickF rfl rfl rfl) rfl ?_
          refine WL.pure (v := (.bool false)) (PO.move rfl) rfl ?_
          refine WL.off 61 rfl rfl rfl rfl ?_
          refine WL.off 61 rfl rfl rfl rfl ?_
          refine WL.pure (v := (.bool false)) (PO.pickF rfl rfl rfl) rfl ?_
          refine WL.pure (v := (.bool false)) (PO.move rfl) rfl ?_
          refine WL.off 65 rfl rfl rfl rfl ?_
          refine WL.off 65 rfl rfl rfl rfl ?_
          refine WL.pure (v := (.bool false)) (PO.pickF rfl rfl rfl) rfl ?_
          refine WL.pure (v := (.bool false)) (PO.move rfl) rfl ?_
          refine WL.off 69 rfl rfl rfl rfl ?_
          refine WL.off 69 rfl rfl rfl rfl ?_
          refine WL.off 69 rfl rfl rfl rfl ?_
          refine WL.pure (v := (.bool false)) (PO.pickF rfl rfl rfl) rfl ?_
          refine WL.pure (v := (.bool false)) (PO.move rfl) rfl ?_
          refine WL.off 74 rfl rfl rfl rfl ?_
          refine WL.off 74 rfl rfl rfl rfl ?_
          refine WL.off 74 rfl rfl rfl rfl ?_
          refine WL.pure (v := (.bool false)) (PO.pickF rfl rfl rfl) rfl ?_
          refine WL.pure (v := (.bool false)) (PO.move rfl) rfl ?_
          refine WL.off 79 rfl rfl rfl rfl ?_
          refine WL.off 79 rfl rfl rfl rfl ?_
          refine WL.off 79 rfl rfl rfl rfl ?_
          refine WL.off 79 rfl rfl rfl rfl ?_
          refine WL.pure (v := (.bool false)) (PO.pickF rfl rfl rfl) rfl ?_
          refine WL.pure (v := (.bool false)) (PO.move rfl) rfl ?_
          refine WL.off 85 rfl rfl rfl rfl ?_
          refine WL.off 85 rfl rfl rfl rfl ?_
          refine WL.off 85 rfl rfl rfl rfl ?_
          refine WL.off 85 rfl rfl rfl rfl ?_
          refine WL.pure (v := (.bool false)) (PO.pickF rfl rfl rfl) rfl ?_
          refine WL.pure (v := (.bool false)) (PO.move rfl) rfl ?_
          refine WL.off 91 rfl rfl rfl rfl ?_
          refine WL.off 91 rfl rfl rfl rfl ?_
          refine WL.off 91 rfl rfl rfl rfl ?_
          refine WL.pure (v := (.bool false)) (PO.pickF rfl rfl rfl) rfl ?_
          refine WL.pure (v := (.bool false)) (PO.assign rfl) rfl ?_
          refine WL.nil ?_
          refine WQ.drop ?_
          obtain rfl := Option.some.inj h
          refine WQ.thenJ ?_
          exact ⟨(IM.le.refl _), rfl, rfl⟩
      · have h := ite_f hb52 h
        refine WL.off 47 rfl rfl hb52 rfl ?_
        refine WL.pure (v := (.bool false)) (PO.pickF rfl hb52 rfl) rfl ?_
        refine WL.pure (v := (.bool false)) (PO.move rfl) rfl ?_
        refine WL.off 50 rfl rfl rfl rfl ?_
        refine WL.off 50 rfl rfl rfl rfl ?_
        refine WL.pure (v := (.bool false)) (PO.pickF rfl rfl rfl) rfl ?_
        refine WL.pure (v := (.bool false)) (PO.move rfl) rfl ?_
        refine WL.off 54 rfl rfl rfl rfl ?_
        refine WL.off 54 rfl rfl rfl rfl ?_
        refine WL.pure (v := (.bool false)) (PO.pickF rfl rfl rfl) rfl ?_
        refine WL.pure (v := (.bool false)) (PO.move rfl) rfl ?_
        refine WL.off 58 rfl rfl rfl rfl ?_
        refine WL.pure (v := (.bool false)) (PO.pickF rfl rfl rfl) rfl ?_
        refine WL.pure (v := (.bool false)) (PO.move rfl) rfl ?_
        refine WL.off 61 rfl rfl rfl rfl ?_
        refine WL.off 61 rfl rfl rfl rfl ?_
        refine WL.pure (v := (.bool false)) (PO.pickF rfl rfl rfl) rfl ?_
        refine WL.pure (v := (.bool false)) (PO.move rfl) rfl ?_
        refine WL.off 65 rfl rfl rfl rfl ?_
        refine WL.off 65 rfl rfl rfl rfl ?_
        refine WL.pure (v := (.bool false)) (PO.pickF rfl rfl rfl) rfl ?_
        refine WL.pure (v := (.bool false)) (PO.move rfl) rfl ?_
        refine WL.off 69 rfl rfl rfl rfl ?_
        refine WL.off 69 rfl rfl rfl rfl ?_
        refine WL.off 69 rfl rfl rfl rfl ?_
        refine WL.pure (v := (.bool false)) (PO.pickF rfl rfl rfl) rfl ?_
        refine WL.pure (v := (.bool false)) (PO.move rfl) rfl ?_
        refine WL.off 74 rfl rfl rfl rfl ?_
        refine WL.off 74 rfl rfl rfl rfl ?_
        refine WL.off 74 rfl rfl rfl rfl ?_
        refine WL.pure (v := (.bool false)) (PO.pickF rfl rfl rfl) rfl ?_
        refine WL.pure (v := (.bool false)) (PO.move rfl) rfl ?_
        refine WL.off 79 rfl rfl rfl rfl ?_
        refine WL.off 79 rfl rfl rfl rfl ?_
        refine WL.off 79 rfl rfl rfl rfl ?_
        refine WL.off 79 rfl rfl rfl rfl ?_
        refine WL.pure (v := (.bool false)) (PO.pickF rfl rfl rfl) rfl ?_
        refine WL.pure (v := (.bool false)) (PO.move rfl) rfl ?_
        refine WL.off 85 rfl rfl rfl rfl ?_
        refine WL.off 85 rfl rfl rfl rfl ?_
        refine WL.off 85 rfl rfl rfl rfl ?_
        refine WL.off 85 rfl rfl rfl rfl ?_
        refine WL.pure (v := (.bool false)) (PO.pickF rfl rfl rfl) rfl ?_
        refine WL.pure (v := (.bool false)) (PO.move rfl) rfl ?_
        refine WL.off 91 rfl rfl rfl rfl ?_
        refine WL.off 91 rfl rfl rfl rfl ?_
        refine WL.off 91 rfl rfl rfl rfl ?_
        refine WL.pure (v := (.bool false)) (PO.pickF rfl rfl rfl) rfl ?_
        refine WL.pure (v := (.bool false)) (PO.assign rfl) rfl ?_
        refine WL.nil ?_
        refine WQ.drop ?_
        obtain rfl := Option.some.inj h
        refine WQ.thenJ ?_
        exact ⟨(IM.le.refl _), rfl, rfl⟩
    · have h := ite_f hb51 h
      refine WL.off 43 rfl rfl hb51 rfl ?_
      refine WL.off 43 rfl rfl hb51 rfl ?_
      refine WL.pure (v := (.bool false)) (PO.pickF rfl hb51 rfl) rfl ?_
      refine WL.pure (v := (.bool false)) (PO.move rfl) rfl ?_
      refine WL.off 47 rfl rfl rfl rfl ?_
      refine WL.pure (v := (.bool false)) (PO.pickF rfl rfl rfl) rfl ?_
      refine WL.pure (v := (.bool false)) (PO.move rfl) rfl ?_
      refine WL.off 50 rfl rfl rfl rfl ?_
      refine WL.off 50 rfl rfl rfl rfl ?_
      refine WL.pure (v := (.bool false)) (PO.pickF rfl rfl rfl) rfl ?_
      refine WL.pure (v := (.bool false)) (PO.move rfl) rfl ?_
      refine WL.off 54 rfl rfl rfl rfl ?_
      refine WL.off 54 rfl rfl rfl rfl ?_
      refine WL.pure (v := (.bool false)) (PO.pickF rfl rfl rfl) rfl ?_
      refine WL.pure (v := (.bool false)) (PO.move rfl) rfl ?_
      refine WL.off 58 rfl rfl rfl rfl ?_
      refine WL.pure (v := (.bool false)) (PO.pickF rfl rfl rfl) rfl ?_
      refine WL.pure (v := (.bool false)) (PO.move rfl) rfl ?_
      refine WL.off 61 rfl rfl rfl rfl ?_
      refine WL.off 61 rfl rfl rfl rfl ?_
      refine WL.pure (v := (.bool false)) (PO.pickF rfl rfl rfl) rfl ?_
      refine WL.pure (v := (.bool false)) (PO.move rfl) rfl ?_
      refine WL.off 65 rfl rfl rfl rfl ?_
      refine WL.off 65 rfl rfl rfl rfl ?_
      refine WL.pure (v := (.bool false)) (PO.pickF rfl rfl rfl) rfl ?_
      refine WL.pure (v := (.bool false)) (PO.move rfl) rfl ?_
      refine WL.off 69 rfl rfl rfl rfl ?_
      refine WL.off 69 rfl rfl rfl rfl ?_
      refine WL.off 69 rfl rfl rfl rfl ?_
      refine WL.pure (v := (.bool false)) (PO.pickF rfl rfl rfl) rfl ?_
      refine WL.pure (v := (.bool false)) (PO.move rfl) rfl ?_
      refine WL.off 74 rfl rfl rfl rfl ?_
      refine WL.off 74 rfl rfl rfl rfl ?_
      refine WL.off 74 rfl rfl rfl rfl ?_
      refine WL.pure (v := (.bool false)) (PO.pickF rfl rfl rfl) rfl ?_
      refine WL.pure (v := (.bool false)) (PO.move rfl) rfl ?_
      refine WL.off 79 rfl rfl rfl rfl ?_
      refine WL.off 79 rfl rfl rfl rfl ?_
      refine WL.off 79 rfl rfl rfl rfl ?_
      refine WL.off 79 rfl rfl rfl rfl ?_
      refine WL.pure (v := (.bool false)) (PO.pickF rfl rfl rfl) rfl ?_
      refine WL.pure (v := (.bool false)) (PO.move rfl) rfl ?_
      refine WL.off 85 rfl rfl rfl rfl ?_
      refine WL.off 85 rfl rfl rfl rfl ?_
      refine WL.off 85 rfl rfl rfl rfl ?_
      refine WL.off 85 rfl rfl rfl rfl ?_
      refine WL.pure (v := (.bool false)) (PO.pickF rfl rfl rfl) rfl ?_
      refine WL.pure (v := (.bool false)) (PO.move rfl) rfl ?_
      refine WL.off 91 rfl rfl rfl rfl ?_
      refine WL.off 91 rfl rfl rfl rfl ?_
      refine WL.off 91 rfl rfl rfl rfl ?_
      refine WL.pure (v := (.bool false)) (PO.pickF rfl rfl rfl) rfl ?_
      refine WL.pure (v := (.bool false)) (PO.assign rfl) rfl ?_
      refine WL.nil ?_
      refine WQ.drop ?_
      obtain rfl := Option.some.inj h
      refine WQ.thenJ ?_
      exact ⟨(IM.le.refl _), rfl, rfl⟩
  · rintro ρ50 M50 H50 ⟨hle50, rfl, hs50_0⟩
    refine WC.ret ?_
    exact WQ.returnsF h [] rfl (results1 rfl hs50_0) ((((hle9.trans hle21).trans hle33).trans hle45).trans hle50) ⟨rfl, rfl⟩


end Go.Proofs.Ytmifmgpfjamdkaa.G
