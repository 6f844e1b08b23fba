/- Go functions: what they come to, and that they do. Printed by a program of the session (gen). -/
import Derived.Test.YtmifmgpfjamdkaaSF
import Derived.Test.YtmifmgpfjamdkaaS0
set_option linter.unusedVariables false
set_option linter.unusedSimpArgs false
namespace Go.Proofs.Ytmifmgpfjamdkaa.G
open Go Go.KK

noncomputable def f_spans_Parted (a0 : (List T_api_Span)) (a1 : Int) (a2 : Int) (a3 : Int) : Option (Int × Int × Bool) :=
  ((f_spans_EndOf a0 a2 a1).bind fun (r1, r2, r3) => (if (!r3) = true then ((f_spans_l0 a0).bind fun (r11, r12, r13) => (some (r11, r12, r13))) else (((if (decide (r1 ≠ a2)) = true then (some true) else (some (decide (r2 < a3)))) : Option Bool).bind fun (x20 : Bool) => (if x20 = true then (some (r1, r2, true)) else (some ((0 : Int), (0 : Int), false))))))
def f_spans_Parted_post (a0 : (List T_api_Span)) (a1 : Int) (a2 : Int) (a3 : Int) (v0 : Value) : (Int × Int × Bool) → Value → IM → HL → Prop :=
  fun (p_ : (Int × Int × Bool)) (v : Value) (M' : IM) (H' : HL) => match p_ with | (r0, r1, r2) => (.tuple #[(.int .i64 r0), (.int .i64 r1), (.bool r2)]) = v ∧ H' = []
set_option maxHeartbeats 1000000 in
set_option maxRecDepth 100000 in
theorem f_spans_Parted_ok (a0 : (List T_api_Span)) (a1 : Int) (a2 : Int) (a3 : Int) (M : IM) (v0 : Value) (h0 : RS kd_api_Span M v0 a0) (res : (Int × Int × Bool)) (h : f_spans_Parted a0 a1 a2 a3 = some res) :
    Tri Try.prog 24 #[v0, (.int .i64 a1), (.int .i64 a2), (.int .i64 a3)] M [] (f_spans_Parted_post a0 a1 a2 a3 v0 res) := by
  unfold f_spans_Parted at h
  refine Tri.enter (fn := Try.f24) Try.func24 rfl (Nat.le_of_ble_eq_true rfl) ?_
  intro F ρ hρ
  refine WC.seq ?_
  refine WC.region ?_
  refine WL.pure (v := (.int .i64 (0 : Int))) (PO.assign rfl) rfl ?_
  refine WL.pure (v := (.int .i64 (0 : Int))) (PO.assign rfl) rfl ?_
  refine WL.pure (v := (.bool false)) (PO.assign rfl) rfl ?_
  refine WL.nil ?_
  refine WQ.thenC ?_
  refine WC.seq ?_
  refine WC.region ?_
  refine WL.pure (v := v0) (PO.move (hρ 0)) rfl ?_
  refine WL.pure (v := (.int .i64 a2)) (PO.move (hρ 2)) rfl ?_
  refine WL.pure (v := (.int .i64 a1)) (PO.move (hρ 1)) rfl ?_
  obtain ⟨⟨r1, r2, r3⟩, hr4, h⟩ := bnd h
  refine WL.eff (EO.call0 co22 (args3 (show ev _ _ = v0 from rfl) (show ev _ _ = (.int .i64 a2) from rfl) (show ev _ _ = (.int .i64 a1) from rfl)) (f_spans_EndOf_ok a0 a2 a1 _ _ h0 (r1, r2, r3) hr4)) rfl ?_
  rintro _ M5 _ hle6 ⟨_, ⟨rfl, rfl⟩, rfl⟩
  have h0 := h0.mono hle6
  refine WL.a0 ?_
  refine WL.pure (v := (.tuple #[(.int .i64 r1), (.int .i64 r2), (.bool r3)])) (PO.move rfl) rfl ?_
  refine WL.pure (v := (.int .i64 r1)) (PO.extract rfl rfl) rfl ?_
  refine WL.pure (v := (.int .i64 r2)) (PO.extract rfl rfl) rfl ?_
  refine WL.pure (v := (.bool r3)) (PO.extract rfl rfl) rfl ?_
  refine WL.pure (v := (.int .i64 r1)) (PO.assign rfl) rfl ?_
  refine WL.pure (v := (.int .i64 r2)) (PO.assign rfl) rfl ?_
  refine WL.pure (v := (.bool r3)) (PO.assign rfl) rfl ?_
  refine WL.nil ?_
  refine WQ.thenC ?_
  refine WC.seq ?_
  refine WC.block ?_
  refine WC.seq ?_
  refine WC.region ?_
  refine WL.pure (v := (.bool r3)) (PO.move rfl) rfl ?_
  refine WL.pure (v := (.bool (!r3))) (PO.not rfl) rfl ?_
  refine WL.pure (v := (.bool (!r3))) (PO.assign rfl) rfl ?_
  refine WL.nil ?_
  refine WQ.thenC ?_
  refine WC.cond (b := !r3) rfl (fun hb10 => ?_) (fun hb10 => ?_)
  · have h := ite_t hb10 h
    refine WC.seq ?_
    refine WC.region ?_
    refine WL.pure (v := v0) (PO.move (hρ 0)) rfl ?_
    obtain ⟨⟨r11, r12, r13⟩, hr14, h⟩ := bnd h
    refine WL.eff (EO.call0 co37 (args1 (show ev _ _ = v0 from rfl)) (f_spans_l0_ok a0 _ _ h0 (r11, r12, r13) hr14)) rfl ?_
    rintro _ M15 _ hle16 ⟨_, ⟨rfl, rfl⟩, rfl⟩
    have h0 := h0.mono hle16
    refine WL.a0 ?_
    refine WL.pure (v := (.int .i64 r11)) (PO.extract rfl rfl) rfl ?_
    refine WL.pure (v := (.int .i64 r12)) (PO.extract rfl rfl) rfl ?_
    refine WL.pure (v := (.bool r13)) (PO.extract rfl rfl) rfl ?_
    refine WL.pure (v := (.int .i64 r11)) (PO.assign rfl) rfl ?_
    refine WL.pure (v := (.int .i64 r12)) (PO.assign rfl) rfl ?_
    refine WL.pure (v := (.bool r13)) (PO.assign rfl) rfl ?_
    refine WL.nil ?_
    refine WQ.thenC ?_
    refine WC.ret ?_
    refine WQ.blockR ?_
    refine WQ.thenR ?_
    exact WQ.returnsF h [] rfl (results3 rfl rfl rfl rfl) (hle6.trans hle16) ⟨rfl, rfl⟩
  · have h := ite_f hb10 h
    obtain ⟨x20, hj21, h⟩ := bnd h
    refine WC.joinF (fun (x20 : Bool) (ρ' : Nat → Value) (M' : IM) (H' : HL) => M5.le M' ∧ F = H' ∧ ρ' 11 = (.int .i64 r1) ∧ ρ' 12 = (.int .i64 r2) ∧ ρ' 30 = (.bool x20)) x20 ?_ ?_
    · have h321 := h
      have h := hj21
      refine WC.region ?_
      refine WL.pure (v := (.int .i64 r1)) (PO.move rfl) rfl ?_
      refine WL.pure (v := (.int .i64 a2)) (PO.move (hρ 2)) rfl ?_
      refine WL.pure (v := (.bool (decide (r1 ≠ a2)))) (PO.neq rfl rfl) rfl ?_
      refine WL.pure (v := (.bool (decide (r1 ≠ a2)))) (PO.move rfl) rfl ?_
      rcases Bool.eq_false_or_eq_true (decide (r1 ≠ a2)) with hb22 | hb22
      · have h := ite_t hb22 h
        refine WL.off 34 rfl rfl hb22 rfl ?_
        refine WL.off 34 rfl rfl hb22 rfl ?_
        refine WL.off 34 rfl rfl hb22 rfl ?_
        refine WL.pure (v := (.bool true)) (PO.pickT rfl hb22 rfl) rfl ?_
        refine WL.pure (v := (.bool true)) (PO.assign rfl) rfl ?_
        refine WL.nil ?_
        obtain rfl := Option.some.inj h
        refine WQ.thenJ ?_
        exact ⟨(IM.le.refl _), rfl, rfl, rfl, rfl⟩
      · have h := ite_f hb22 h
        refine WL.on 34 rfl rfl hb22 ?_
        refine WL.pure (v := (.int .i64 r2)) (PO.move rfl) rfl ?_
        refine WL.on 34 rfl rfl hb22 ?_
        refine WL.pure (v := (.int .i64 a3)) (PO.move (hρ 3)) rfl ?_
        refine WL.on 34 rfl rfl hb22 ?_
        refine WL.pure (v := (.bool (decide (r2 < a3)))) (PO.lss rfl rfl) rfl ?_
        refine WL.pure (v := (.bool (decide (r2 < a3)))) (PO.pickF rfl hb22 rfl) rfl ?_
        refine WL.pure (v := (.bool (decide (r2 < a3)))) (PO.assign rfl) rfl ?_
        refine WL.nil ?_
        obtain rfl := Option.some.inj h
        refine WQ.thenJ ?_
        exact ⟨(IM.le.refl _), rfl, rfl, rfl, rfl⟩
    · rintro ρ21 M21 H21 ⟨hle21, rfl, hs21_11, hs21_12, hs21_30⟩
      refine WC.cond (b := x20) hs21_30 (fun hb23 => ?_) (fun hb23 => ?_)
      · have h := ite_t hb23 h
        refine WC.seq ?_
        refine WC.region ?_
        refine WL.pure (v := (.int .i64 r1)) (PO.move hs21_11) rfl ?_
        refine WL.pure (v := (.int .i64 r2)) (PO.move hs21_12) rfl ?_
        refine WL.pure (v := (.int .i64 r1)) (PO.assign rfl) rfl ?_
        refine WL.pure (v := (.int .i64 r2)) (PO.assign rfl) rfl ?_
        refine WL.pure (v := (.bool true)) (PO.assign rfl) rfl ?_
        refine WL.nil ?_
        refine WQ.thenC ?_
        refine WC.ret ?_
        refine WQ.blockR ?_
        refine WQ.thenR ?_
        exact WQ.returnsF h [] rfl (results3 rfl rfl rfl rfl) (hle6.trans hle21) ⟨rfl, rfl⟩
      · have h := ite_f hb23 h
        refine WC.skip ?_
        refine WQ.blockN ?_
        refine WQ.thenC ?_
        refine WC.seq ?_
        refine WC.region ?_
        refine WL.pure (v := (.int .i64 (0 : Int))) (PO.assign rfl) rfl ?_
        refine WL.pure (v := (.int .i64 (0 : Int))) (PO.assign rfl) rfl ?_
        refine WL.pure (v := (.bool false)) (PO.assign rfl) rfl ?_
        refine WL.nil ?_
        refine WQ.thenC ?_
        refine WC.ret ?_
        exact WQ.returnsF h [] rfl (results3 rfl rfl rfl rfl) (hle6.trans hle21) ⟨rfl, rfl⟩

noncomputable def f_spans_Keep (a0 : (List T_api_Span)) (a1 : Int) (a2 : Int) (a3 : Int) : Option Int :=
  ((f_spans_EndOf a0 a2 a1).bind fun (r1, r2, r3) => (if (!r3) = true then ((f_spans_l0 a0).bind fun (r11, r12, r13) => (some r12)) else (if (decide (r1 = a2)) = true then (some (if a3 < r2 then a3 else r2)) else (some r2))))
def f_spans_Keep_post (a0 : (List T_api_Span)) (a1 : Int) (a2 : Int) (a3 : Int) (v0 : Value) : Int → Value → IM → HL → Prop :=
  fun (r0 : Int) (v : Value) (M' : IM) (H' : HL) => (.int .i64 r0) = v ∧ H' = []
set_option maxHeartbeats 1000000 in
set_option maxRecDepth 100000 in
theorem f_spans_Keep_ok (a0 : (List T_api_Span)) (a1 : Int) (a2 : Int) (a3 : Int) (M : IM) (v0 : Value) (h0 : RS kd_api_Span M v0 a0) (res : Int) (h : f_spans_Keep a0 a1 a2 a3 = some res) :
    Tri Try.prog 26 #[v0, (.int .i64 a1), (.int .i64 a2), (.int .i64 a3)] M [] (f_spans_Keep_post a0 a1 a2 a3 v0 res) := by
  unfold f_spans_Keep at h
  refine Tri.enter (fn := Try.f26) Try.func26 rfl (Nat.le_of_ble_eq_true rfl) ?_
  intro F ρ hρ
  refine WC.seq ?_
  refine WC.region ?_
  refine WL.pure (v := (.int .i64 (0 : Int))) (PO.assign rfl) rfl ?_
  refine WL.nil ?_
  refine WQ.thenC ?_
  refine WC.seq ?_
  refine WC.region ?_
  refine WL.pure (v := v0) (PO.move (hρ 0)) rfl ?_
  refine WL.pure (v := (.int .i64 a2)) (PO.move (hρ 2)) rfl ?_
  refine WL.pure (v := (.int .i64 a1)) (PO.move (hρ 1)) rfl ?_
  obtain ⟨⟨r1, r2, r3⟩, hr4, h⟩ := bnd h
  refine WL.eff (EO.call0 co22 (args3 (show ev _ _ = v0 from rfl) (show ev _ _ = (.int .i64 a2) from rfl) (show ev _ _ = (.int .i64 a1) from rfl)) (f_spans_EndOf_ok a0 a2 a1 _ _ h0 (r1, r2, r3) hr4)) rfl ?_
  rintro _ M5 _ hle6 ⟨_, ⟨rfl, rfl⟩, rfl⟩
  have h0 := h0.mono hle6
  refine WL.a0 ?_
  refine WL.pure (v := (.tuple #[(.int .i64 r1), (.int .i64 r2), (.bool r3)])) (PO.move rfl) rfl ?_
  refine WL.pure (v := (.int .i64 r1)) (PO.extract rfl rfl) rfl ?_
  refine WL.pure (v := (.int .i64 r2)) (PO.extract rfl rfl) rfl ?_
  refine WL.pure (v := (.bool r3)) (PO.extract rfl rfl) rfl ?_
  refine WL.pure (v := (.int .i64 r1)) (PO.assign rfl) rfl ?_
  refine WL.pure (v := (.int .i64 r2)) (PO.assign rfl) rfl ?_
  refine WL.pure (v := (.bool r3)) (PO.assign rfl) rfl ?_
  refine WL.nil ?_
  refine WQ.thenC ?_
  refine WC.seq ?_
  refine WC.seq ?_
  refine WC.region ?_
  refine WL.pure (v := (.bool r3)) (PO.move rfl) rfl ?_
  refine WL.pure (v := (.bool (!r3))) (PO.not rfl) rfl ?_
  refine WL.nil ?_
  refine WQ.thenC ?_
  refine WC.cond (b := !r3) rfl (fun hb10 => ?_) (fun hb10 => ?_)
  · have h := ite_t hb10 h
    refine WC.seq ?_
    refine WC.region ?_
    refine WL.pure (v := v0) (PO.move (hρ 0)) rfl ?_
    obtain ⟨⟨r11, r12, r13⟩, hr14, h⟩ := bnd h
    refine WL.eff (EO.call0 co37 (args1 (show ev _ _ = v0 from rfl)) (f_spans_l0_ok a0 _ _ h0 (r11, r12, r13) hr14)) rfl ?_
    rintro _ M15 _ hle16 ⟨_, ⟨rfl, rfl⟩, rfl⟩
    have h0 := h0.mono hle16
    refine WL.a0 ?_
    refine WL.pure (v := (.tuple #[(.int .i64 r11), (.int .i64 r12), (.bool r13)])) (PO.move rfl) rfl ?_
    refine WL.pure (v := (.int .i64 r11)) (PO.extract rfl rfl) rfl ?_
    refine WL.pure (v := (.int .i64 r12)) (PO.extract rfl rfl) rfl ?_
    refine WL.pure (v := (.bool r13)) (PO.extract rfl rfl) rfl ?_
    refine WL.pure (v := (.int .i64 r11)) (PO.assign rfl) rfl ?_
    refine WL.pure (v := (.int .i64 r12)) (PO.assign rfl) rfl ?_
    refine WL.pure (v := (.bool r13)) (PO.assign rfl) rfl ?_
    refine WL.nil ?_
    refine WQ.thenC ?_
    refine WC.seq ?_
    refine WC.region ?_
    refine WL.pure (v := (.int .i64 r12)) (PO.move rfl) rfl ?_
    refine WL.pure (v := (.int .i64 r12)) (PO.assign rfl) rfl ?_
    refine WL.nil ?_
    refine WQ.thenC ?_
    refine WC.ret ?_
    refine WQ.thenR ?_
    exact WQ.returnsF h [] rfl (results1 rfl rfl) (hle6.trans hle16) ⟨rfl, rfl⟩
  · have h := ite_f hb10 h
    refine WC.skip ?_
    refine WQ.thenC ?_
    refine WC.seq ?_
    refine WC.seq ?_
    refine WC.region ?_
    refine WL.pure (v := (.int .i64 r1)) (PO.move rfl) rfl ?_
    refine WL.pure (v := (.int .i64 a2)) (PO.move (hρ 2)) rfl ?_
    refine WL.pure (v := (.bool (decide (r1 = a2)))) (PO.eql rfl rfl) rfl ?_
    refine WL.nil ?_
    refine WQ.thenC ?_
    refine WC.cond (b := decide (r1 = a2)) rfl (fun hb20 => ?_) (fun hb20 => ?_)
    · have h := ite_t hb20 h
      refine WC.seq ?_
      refine WC.region ?_
      refine WL.pure (v := (.int .i64 r2)) (PO.move rfl) rfl ?_
      refine WL.pure (v := (.int .i64 a3)) (PO.move (hρ 3)) rfl ?_
      refine WL.pure (v := (.int .i64 (if a3 < r2 then a3 else r2))) (PO.min rfl rfl) rfl ?_
      refine WL.pure (v := (.int .i64 (if a3 < r2 then a3 else r2))) (PO.assign rfl) rfl ?_
      refine WL.nil ?_
      refine WQ.thenC ?_
      refine WC.ret ?_
      refine WQ.thenR ?_
      exact WQ.returnsF h [] rfl (results1 rfl rfl) hle6 ⟨rfl, rfl⟩
    · have h := ite_f hb20 h
      refine WC.skip ?_
      refine WQ.thenC ?_
      refine WC.seq ?_
      refine WC.region ?_
      refine WL.pure (v := (.int .i64 r2)) (PO.move rfl) rfl ?_
      refine WL.pure (v := (.int .i64 r2)) (PO.assign rfl) rfl ?_
      refine WL.nil ?_
      refine WQ.thenC ?_
      refine WC.ret ?_
      exact WQ.returnsF h [] rfl (results1 rfl rfl) hle6 ⟨rfl, rfl⟩

noncomputable def f_slices_Clone_api_Span_api_Span (a0 : (List T_api_Span)) : Option (List T_api_Span) :=
  (grd (([] : List T_api_Span).length + a0.length ≤ 274877906944) (some (([] : List T_api_Span) ++ a0)))
def f_slices_Clone_api_Span_api_Span_post (a0 : (List T_api_Span)) (v0 : Value) : (List T_api_Span) → Value → IM → HL → Prop :=
  fun (r0 : (List T_api_Span)) (v : Value) (M' : IM) (H' : HL) => ∃ vz0 cz0, vz0 = v ∧ H' = [cz0] ∧ OwnS kd_api_Span M' vz0 r0 cz0
set_option maxHeartbeats 1000000 in
set_option maxRecDepth 100000 in
theorem f_slices_Clone_api_Span_api_Span_ok (a0 : (List T_api_Span)) (M : IM) (v0 : Value) (h0 : RS kd_api_Span M v0 a0) (res : (List T_api_Span)) (h : f_slices_Clone_api_Span_api_Span a0 = some res) :
    Tri Try.prog 40 #[v0] M [] (f_slices_Clone_api_Span_api_Span_post a0 v0 res) := by
  unfold f_slices_Clone_api_Span_api_Span at h
  refine Tri.enter (fn := Try.f40) Try.func40 rfl (Nat.le_of_ble_eq_true rfl) ?_
  intro F ρ hρ
  refine WC.seq ?_
  refine WC.region ?_
  refine WL.pure (v := (.slice none 0 0)) (PO.assign rfl) rfl ?_
  refine WL.nil ?_
  refine WQ.thenC ?_
  refine WC.seq ?_
  refine WC.seq ?_
  refine WC.region ?_
  refine WL.pure (v := v0) (PO.move (hρ 0)) rfl ?_
  refine WL.pure (v := (.bool (nilS v0))) (PO.sliceNil Try.underlying35 rfl h0.len rfl) rfl ?_
  refine WL.nil ?_
  refine WQ.thenC ?_
  refine WC.cond (b := nilS v0) rfl (fun hb1 => ?_) (fun hb1 => ?_)
  · obtain rfl := h0.nilxs (by decide) hb1
    have h := Eq.trans (a := ((some []) : Option (List T_api_Span))) (by simp [grd]) h
    refine WC.seq ?_
    refine WC.region ?_
    refine WL.pure (v := (.slice none 0 0)) (PO.assign rfl) rfl ?_
    refine WL.nil ?_
    refine WQ.thenC ?_
    refine WC.ret ?_
    refine WQ.thenR ?_
    refine WQ.e0 ?_
    exact WQ.returnsF h [[]] rfl (results1 rfl rfl) (IM.le.refl _) ⟨(.slice none 0 0), [], rfl, rfl, (OwnS.nil _ _)⟩
  · refine WC.skip ?_
    refine WQ.thenC ?_
    refine WC.seq ?_
    refine WC.region ?_
    refine WL.eff (EO.buildSliceL (cl := []) Try.underlying35 iz50 rfl Parts.nil rfl) rfl ?_
    rintro _ _ _ - ⟨rfl, g3, rfl, rfl⟩
    have h5 : OwnS kd_api_Span M (.slice (some ⟨g3, 0, none⟩) 0 0) [] [(g3, .cells #[] 50 (0, 0))] := OwnS.rows (css := []) Rows.nil rfl rfl
    refine WL.pure (v := v0) (PO.move (hρ 0)) rfl ?_
    obtain ⟨hg9, h⟩ := grd_i h
    refine WL.eff (EO.append (dd := kd_api_Span) (xs := []) (ys := a0) Try.underlying35 Try.underlying35 in50 rfl (appB (by decide) hg9) (by decide) rfl rfl h5 (h0.src _)) rfl ?_
    rintro v8 _ _ - ⟨rfl, c6, rfl, h7⟩
    refine WL.pure (v := v8) (PO.assign rfl) rfl ?_
    refine WL.nil ?_
    refine WQ.thenC ?_
    refine WC.ret ?_
    exact WQ.returnsF h [c6] rfl (results1 rfl rfl) (IM.le.refl _) ⟨v8, c6, rfl, rfl, h7⟩

noncomputable def f_spans_Add_l0 (a2 : Int) (s_ : (List T_api_Span)) : Option ((List T_api_Span) ⊕ (List T_api_Span)) :=
  match s_ with
  | x9 =>
    (((if (decide ((0 : Int) < (x9.length : Int))) = true then (grd (0 ≤ IntKind.i64.wrap ((x9.length : Int) - (1 : Int)) ∧ IntKind.i64.wrap ((x9.length : Int) - (1 : Int)) < x9.length) (some (decide (a2 ≤ ((rd x9 (IntKind.i64.wrap ((x9.length : Int) - (1 : Int)))).Start))))) else (some false)) : Option Bool).bind fun (x11 : Bool) => (if x11 = true then (grd (0 ≤ (0 : Int) ∧ (0 : Int) ≤ IntKind.i64.wrap ((x9.length : Int) - (1 : Int)) ∧ IntKind.i64.wrap ((x9.length : Int) - (1 : Int)) ≤ (x9.length : Int)) (some (Sum.inl (sub x9 (0 : Int) (IntKind.i64.wrap ((x9.length : Int) - (1 : Int))))))) else (some (Sum.inr x9))))
noncomputable def f_spans_Add (a0 : (List T_api_Span)) (a1 : Int) (a2 : Int) : Option (List T_api_Span) :=
  ((f_slices_Clone_api_Span_api_Span a0).bind fun (r1 : (List T_api_Span)) => ((((iter (f_spans_Add_l0 a2) r1).bind (fun (x10 : (List T_api_Span)) => (some x10))) : Option (List T_api_Span)).bind fun (x6 : (List T_api_Span)) => (((if (decide ((0 : Int) < (x6.length : Int))) = true then (grd (0 ≤ IntKind.i64.wrap ((x6.length : Int) - (1 : Int)) ∧ IntKind.i64.wrap ((x6.length : Int) - (1 : Int)) < x6.length) (some (decide (a1 ≤ ((rd x6 (IntKind.i64.wrap ((x6.length : Int) - (1 : Int)))).Term))))) else (some false)) : Option Bool).bind fun (x24 : Bool) => (if x24 = true then (some x6) else (grd (x6.length + [(⟨a1, a2⟩ : T_api_Span)].length ≤ 274877906944) (some (x6 ++ [(⟨a1, a2⟩ : T_api_Span)])))))))
def f_spans_Add_post (a0 : (List T_api_Span)) (a1 : Int) (a2 : Int) (v0 : Value) : (List T_api_Span) → Value → IM → HL → Prop :=
  fun (r0 : (List T_api_Span)) (v : Value) (M' : IM) (H' : HL) => ∃ vz0 cz0, vz0 = v ∧ H' = [cz0] ∧ OwnS kd_api_Span M' vz0 r0 cz0
set_option maxHeartbeats 1000000 in
set_option maxRecDepth 100000 in
theorem f_spans_Add_ok (a0 : (List T_api_Span)) (a1 : Int) (a2 : Int) (M : IM) (v0 : Value) (h0 : RS kd_api_Span M v0 a0) (res : (List T_api_Span)) (h : f_spans_Add a0 a1 a2 = some res) :
    Tri Try.prog 34 #[v0, (.int .i64 a1), (.int .i64 a2)] M [] (f_spans_Add_post a0 a1 a2 v0 res) := by
  unfold f_spans_Add at h
  refine Tri.enter (fn := Try.f34) Try.func34 rfl (Nat.le_of_ble_eq_true rfl) ?_
  intro F ρ hρ
  refine WC.seq ?_
  refine WC.region ?_
  refine WL.pure (v := (.slice none 0 0)) (PO.assign rfl) rfl ?_
  refine WL.nil ?_
  refine WQ.thenC ?_
  refine WC.seq ?_
  refine WC.region ?_
  refine WL.pure (v := v0) (PO.move (hρ 0)) rfl ?_
  obtain ⟨r1, hr2, h⟩ := bnd h
  refine WL.eff (EO.call0 co40 (args1 (show ev _ _ = v0 from rfl)) (f_slices_Clone_api_Span_api_Span_ok a0 _ _ h0 r1 hr2)) rfl ?_
  rintro _ M3 _ hle4 ⟨_, ⟨vq5, cq5, rfl, rfl, hq5⟩, rfl⟩
  have h0 := h0.mono hle4
  refine WL.a1 ?_
  refine WL.pure (v := vq5) (PO.assign rfl) rfl ?_
  refine WL.nil ?_
  refine WQ.thenC ?_
  obtain ⟨x6, hj7, h⟩ := bnd h
  refine WC.joinF (fun (x6 : (List T_api_Span)) (ρ' : Nat → Value) (M' : IM) (H' : HL) => ∃ vx6 cx6, M3.le M' ∧ cx6 :: F = H' ∧ ρ' 1 = (.int .i64 a1) ∧ ρ' 2 = (.int .i64 a2) ∧ ρ' 7 = vx6 ∧ OwnS kd_api_Span M' vx6 x6 cx6) x6 ?_ ?_
  · have h37 := h
    have h := hj7
    refine WC.block ?_
    obtain ⟨e8, he8, hK8⟩ := bnd h
    clear h
    refine WC.loop he8 (fun (x9 : (List T_api_Span)) (ρ' : Nat → Value) (M' : IM) (H' : HL) => ∃ vx9 cx9, M3.le M' ∧ cx9 :: F = H' ∧ ρ' 1 = (.int .i64 a1) ∧ ρ' 2 = (.int .i64 a2) ∧ ρ' 7 = vx9 ∧ OwnS kd_api_Span M' vx9 x9 cx9) ?_ ?_
    · exact ⟨vq5, cq5, (IM.le.refl _), rfl, (hρ 1), (hρ 2), rfl, hq5⟩
    · rintro x9 o8 ρ8 M8 H8 h ⟨vx9, cx9, hle8, rfl, hs8_1, hs8_2, hs8_7, hx9⟩
      unfold f_spans_Add_l0 at h
      refine WC.seq ?_
      obtain ⟨x11, hj12, h⟩ := bnd h
      refine WC.joinF (fun (x11 : Bool) (ρ' : Nat → Value) (M' : IM) (H' : HL) => M8.le M' ∧ cx9 :: F = H' ∧ ρ' 1 = (.int .i64 a1) ∧ ρ' 2 = (.int .i64 a2) ∧ ρ' 7 = vx9 ∧ ρ' 24 = (.bool x11)) x11 ?_ ?_
      · have h312 := h
        have h := hj12
        refine WC.region ?_
        refine WL.pure (v := vx9) (PO.move hs8_7) rfl ?_
        refine WL.pure (v := (.int .i64 (x9.length : Int))) (PO.lenS Try.underlying35 rfl hx9.len) rfl ?_
        refine WL.pure (v := (.bool (decide ((0 : Int) < (x9.length : Int))))) (PO.gtr rfl rfl) rfl ?_
        refine WL.pure (v := (.bool (decide ((0 : Int) < (x9.length : Int))))) (PO.move rfl) rfl ?_
        rcases Bool.eq_false_or_eq_true (decide ((0 : Int) < (x9.length : Int))) with hb13 | hb13
        · have h := ite_t hb13 h
          refine WL.on 14 rfl rfl hb13 ?_
          refine WL.pure (v := vx9) (PO.move hs8_7) rfl ?_
          refine WL.on 14 rfl rfl hb13 ?_
          refine WL.pure (v := vx9) (PO.move hs8_7) rfl ?_
          refine WL.on 14 rfl rfl hb13 ?_
          refine WL.pure (v := (.int .i64 (x9.length : Int))) (PO.lenS Try.underlying35 rfl hx9.len) rfl ?_
          refine WL.on 14 rfl rfl hb13 ?_
          refine WL.pure (v := (.int .i64 (IntKind.i64.wrap ((x9.length : Int) - (1 : Int))))) (PO.sub rfl rfl) rfl ?_
          refine WL.on 14 rfl rfl hb13 ?_
          obtain ⟨hg14, h⟩ := grd_i h
          obtain ⟨p15, cs16, hat17, hrc18, hhas19⟩ := hx9.at hg14.1 hg14.2
          obtain rfl := kd_api_Span_open hrc18
          refine WL.pure (v := (.pointer (some p15))) (PO.indexAddr (n := x9.length) Try.underlying35 sz50 rfl rfl hg14.1 hg14.2 hat17) rfl ?_
          refine WL.on 14 rfl rfl hb13 ?_
          refine WL.pure (v := (.pointer (some (p15.add 1)))) (PO.fieldAddr fo50_1 rfl rfl) rfl ?_
          refine WL.on 14 rfl rfl hb13 ?_
          refine WL.pure (v := (.int .i64 ((rd x9 (IntKind.i64.wrap ((x9.length : Int) - (1 : Int)))).Start))) (PO.loadC 0 pl3 rfl rfl (hhas19 1 _ rfl)) rfl ?_
          refine WL.on 14 rfl rfl hb13 ?_
          refine WL.pure (v := (.int .i64 a2)) (PO.move hs8_2) rfl ?_
          refine WL.on 14 rfl rfl hb13 ?_
          refine WL.pure (v := (.bool (decide (a2 ≤ ((rd x9 (IntKind.i64.wrap ((x9.length : Int) - (1 : Int)))).Start))))) (PO.geq rfl rfl) rfl ?_
          refine WL.pure (v := (.bool (decide (a2 ≤ ((rd x9 (IntKind.i64.wrap ((x9.length : Int) - (1 : Int)))).Start))))) (PO.pickT rfl hb13 rfl) rfl ?_
          refine WL.nil ?_
          obtain rfl := Option.some.inj h
          refine WQ.thenJ ?_
          exact ⟨(IM.le.refl _), rfl, hs8_1, hs8_2, hs8_7, rfl⟩
        · have h := ite_f hb13 h
          refine WL.off 14 rfl rfl hb13 rfl ?_
          refine WL.off 14 rfl rfl hb13 rfl ?_
          refine WL.off 14 rfl rfl hb13 rfl ?_
          refine WL.off 14 rfl rfl hb13 rfl ?_
          refine WL.off 14 rfl rfl hb13 rfl ?_
          refine WL.off 14 rfl rfl hb13 rfl ?_
          refine WL.off 14 rfl rfl hb13 rfl ?_
          refine WL.off 14 rfl rfl hb13 rfl ?_
          refine WL.off 14 rfl rfl hb13 rfl ?_
          refine WL.pure (v := (.bool false)) (PO.pickF rfl hb13 rfl) rfl ?_
          refine WL.nil ?_
          obtain rfl := Option.some.inj h
          refine WQ.thenJ ?_
          exact ⟨(IM.le.refl _), rfl, hs8_1, hs8_2, hs8_7, rfl⟩
      · rintro ρ12 M12 H12 ⟨hle12, rfl, hs12_1, hs12_2, hs12_7, hs12_24⟩
        have hx9 := hx9.mono hle12
        refine WC.cond (b := x11) hs12_24 (fun hb21 => ?_) (fun hb21 => ?_)
        · have h := ite_t hb21 h
          refine WC.skip ?_
          refine WQ.thenC ?_
          refine WC.block ?_
          refine WC.region ?_
          refine WL.pure (v := vx9) (PO.move hs12_7) rfl ?_
          refine WL.pure (v := vx9) (PO.move hs12_7) rfl ?_
          refine WL.pure (v := (.int .i64 (x9.length : Int))) (PO.lenS Try.underlying35 rfl hx9.len) rfl ?_
          refine WL.pure (v := (.int .i64 (IntKind.i64.wrap ((x9.length : Int) - (1 : Int))))) (PO.sub rfl rfl) rfl ?_
          obtain ⟨hg22, h⟩ := grd_i h
          have h23 := hx9.sub hg22.1 hg22.2.1 hg22.2.2
          refine WL.pure (v := (slV vx9 2 ((0 : Int)).toNat (IntKind.i64.wrap ((x9.length : Int) - (1 : Int))).toNat)) (PO.slice (n := x9.length) (l := ((0 : Int)).toNat) (h := (IntKind.i64.wrap ((x9.length : Int) - (1 : Int))).toNat) Try.underlying35 sz50 rfl hx9.len hx9.cap (bound0 rfl) ⟨_, _, rfl, (Int.le_trans hg22.1 hg22.2.1), rfl⟩ (Int.toNat_le_toNat hg22.2.1) (toNat_le_len hg22.2.2)) rfl ?_
          refine WL.pure (v := (slV vx9 2 ((0 : Int)).toNat (IntKind.i64.wrap ((x9.length : Int) - (1 : Int))).toNat)) (PO.assign rfl) rfl ?_
          refine WL.nil ?_
          refine WQ.blockN ?_
          refine WQ.again (sub x9 (0 : Int) (IntKind.i64.wrap ((x9.length : Int) - (1 : Int)))) (Option.some.inj h).symm ?_
          exact ⟨(slV vx9 2 ((0 : Int)).toNat (IntKind.i64.wrap ((x9.length : Int) - (1 : Int))).toNat), cx9, (hle8.trans hle12), rfl, hs12_1, hs12_2, rfl, h23⟩
        · have h := ite_f hb21 h
          refine WC.exit ?_
          refine WQ.thenE ?_
          refine WQ.leaveE x9 (Option.some.inj h).symm (fun heq8 => ?_)
          subst heq8
          have h := hK8
          refine WQ.blockH ?_
          obtain rfl := Option.some.inj h
          refine WQ.thenJ ?_
          exact ⟨vx9, cx9, (hle8.trans hle12), rfl, hs12_1, hs12_2, hs12_7, hx9⟩
  · rintro ρ7 M7 H7 ⟨vx6, cx6, hle7, rfl, hs7_1, hs7_2, hs7_7, hx6⟩
    refine WC.seq ?_
    refine WC.seq ?_
    refine WC.region ?_
    refine WL.pure (v := vx6) (PO.move hs7_7) rfl ?_
    refine WL.pure (v := (.int .i64 (x6.length : Int))) (PO.lenS Try.underlying35 rfl hx6.len) rfl ?_
    refine WL.pure (v := (.int .i64 (x6.length : Int))) (PO.assign rfl) rfl ?_
    refine WL.nil ?_
    refine WQ.thenC ?_
    obtain ⟨x24, hj25, h⟩ := bnd h
    refine WC.joinF (fun (x24 : Bool) (ρ' : Nat → Value) (M' : IM) (H' : HL) => M7.le M' ∧ cx6 :: F = H' ∧ ρ' 1 = (.int .i64 a1) ∧ ρ' 2 = (.int .i64 a2) ∧ ρ' 7 = vx6 ∧ ρ' 43 = (.bool x24)) x24 ?_ ?_
    · have h325 := h
      have h := hj25
      refine WC.region ?_
      refine WL.pure (v := (.int .i64 (x6.length : Int))) (PO.move rfl) rfl ?_
      refine WL.pure (v := (.bool (decide ((0 : Int) < (x6.length : Int))))) (PO.gtr rfl rfl) rfl ?_
      refine WL.pure (v := (.bool (decide ((0 : Int) < (x6.length : Int))))) (PO.move rfl) rfl ?_
      rcases Bool.eq_false_or_eq_true (decide ((0 : Int) < (x6.length : Int))) with hb26 | hb26
      · have h := ite_t hb26 h
        refine WL.on 34 rfl rfl hb26 ?_
        refine WL.pure (v := vx6) (PO.move hs7_7) rfl ?_
        refine WL.on 34 rfl rfl hb26 ?_
        refine WL.pure (v := (.int .i64 (x6.length : Int))) (PO.move rfl) rfl ?_
        refine WL.on 34 rfl rfl hb26 ?_
        refine WL.pure (v := (.int .i64 (IntKind.i64.wrap ((x6.length : Int) - (1 : Int))))) (PO.sub rfl rfl) rfl ?_
        refine WL.on 34 rfl rfl hb26 ?_
        obtain ⟨hg27, h⟩ := grd_i h
        obtain ⟨p28, cs29, hat30, hrc31, hhas32⟩ := hx6.at hg27.1 hg27.2
        obtain rfl := kd_api_Span_open hrc31
        refine WL.pure (v := (.pointer (some p28))) (PO.indexAddr (n := x6.length) Try.underlying35 sz50 rfl rfl hg27.1 hg27.2 hat30) rfl ?_
        refine WL.on 34 rfl rfl hb26 ?_
        refine WL.pure (v := (.pointer (some (p28.add 0)))) (PO.fieldAddr fo50_0 rfl rfl) rfl ?_
        refine WL.on 34 rfl rfl hb26 ?_
        refine WL.pure (v := (.int .i64 ((rd x6 (IntKind.i64.wrap ((x6.length : Int) - (1 : Int)))).Term))) (PO.loadC 0 pl3 rfl rfl (chunkHas0 hhas32)) rfl ?_
        refine WL.on 34 rfl rfl hb26 ?_
        refine WL.pure (v := (.int .i64 a1)) (PO.move hs7_1) rfl ?_
        refine WL.on 34 rfl rfl hb26 ?_
        refine WL.pure (v := (.bool (decide (a1 ≤ ((rd x6 (IntKind.i64.wrap ((x6.length : Int) - (1 : Int)))).Term))))) (PO.geq rfl rfl) rfl ?_
        refine WL.pure (v := (.bool (decide (a1 ≤ ((rd x6 (IntKind.i64.wrap ((x6.length : Int) - (1 : Int)))).Term))))) (PO.pickT rfl hb26 rfl) rfl ?_
        refine WL.nil ?_
        obtain rfl := Option.some.inj h
        refine WQ.thenJ ?_
        exact ⟨(IM.le.refl _), rfl, hs7_1, hs7_2, hs7_7, rfl⟩
      · have h := ite_f hb26 h
        refine WL.off 34 rfl rfl hb26 rfl ?_
        refine WL.off 34 rfl rfl hb26 rfl ?_
        refine WL.off 34 rfl rfl hb26 rfl ?_
        refine WL.off 34 rfl rfl hb26 rfl ?_
        refine WL.off 34 rfl rfl hb26 rfl ?_
        refine WL.off 34 rfl rfl hb26 rfl ?_
        refine WL.off 34 rfl rfl hb26 rfl ?_
        refine WL.off 34 rfl rfl hb26 rfl ?_
        refine WL.pure (v := (.bool false)) (PO.pickF rfl hb26 rfl) rfl ?_
        refine WL.nil ?_
        obtain rfl := Option.some.inj h
        refine WQ.thenJ ?_
        exact ⟨(IM.le.refl _), rfl, hs7_1, hs7_2, hs7_7, rfl⟩
    · rintro ρ25 M25 H25 ⟨hle25, rfl, hs25_1, hs25_2, hs25_7, hs25_43⟩
      have hx6 := hx6.mono hle25
      refine WC.cond (b := x24) hs25_43 (fun hb34 => ?_) (fun hb34 => ?_)
      · have h := ite_t hb34 h
        refine WC.seq ?_
        refine WC.region ?_
        refine WL.pure (v := vx6) (PO.move hs25_7) rfl ?_
        refine WL.pure (v := vx6) (PO.assign rfl) rfl ?_
        refine WL.nil ?_
        refine WQ.thenC ?_
        refine WC.ret ?_
        refine WQ.thenR ?_
        exact WQ.returnsF h [cx6] rfl (results1 rfl rfl) ((hle4.trans hle7).trans hle25) ⟨vx6, cx6, rfl, rfl, hx6⟩
      · have h := ite_f hb34 h
        refine WC.skip ?_
        refine WQ.thenC ?_
        refine WC.seq ?_
        refine WC.region ?_
        refine WL.pure (v := vx6) (PO.move hs25_7) rfl ?_
        refine WL.pure (v := (.int .i64 a1)) (PO.move hs25_1) rfl ?_
        refine WL.pure (v := (.int .i64 a2)) (PO.move hs25_2) rfl ?_
        refine WL.pure (v := (.agg #[(.int .i64 a1), (.int .i64 a2)])) (PO.buildL (cl := [(.int .i64 a1), (.int .i64 a2)]) ze50 fp50 (Parts.cons (congrArg Value.cells (show ev _ _ = (.int .i64 a1) from rfl)) (Parts.cons (congrArg Value.cells (show ev _ _ = (.int .i64 a2) from rfl)) Parts.nil)) rfl) rfl ?_
        refine WL.eff (EO.buildSliceL (cl := [(.int .i64 a1), (.int .i64 a2)]) Try.underlying35 iz50 rfl (Parts.cons (congrArg Value.cells (show ev _ _ = (.agg #[(.int .i64 a1), (.int .i64 a2)]) from rfl)) Parts.nil) rfl) rfl ?_
        rintro _ _ _ - ⟨rfl, g35, rfl, rfl⟩
        have h37 : OwnS kd_api_Span M25 (.slice (some ⟨g35, 0, none⟩) 1 1) [(⟨a1, a2⟩ : T_api_Span)] [(g35, .cells #[(.int .i64 a1), (.int .i64 a2)] 50 (0, 0))] := OwnS.rows (css := [[(.int .i64 a1), (.int .i64 a2)]]) (Rows.cons (kd_api_Span_mk (x := (⟨a1, a2⟩ : T_api_Span))) Rows.nil) rfl rfl
        obtain ⟨hg41, h⟩ := grd_i h
        refine WL.f1 ?_
        refine WL.eff (EO.append (dd := kd_api_Span) (xs := x6) (ys := [(⟨a1, a2⟩ : T_api_Span)]) Try.underlying35 Try.underlying35 in50 rfl (appB (by decide) hg41) (by decide) rfl rfl hx6 (h37.src 1 rfl)) rfl ?_
        rintro v40 _ _ - ⟨rfl, c38, rfl, h39⟩
        refine WL.pure (v := v40) (PO.assign rfl) rfl ?_
        refine WL.nil ?_
        refine WQ.thenC ?_
        refine WC.ret ?_
        refine WQ.f1 ?_
        refine WQ.drop ?_
        exact WQ.returnsF h [c38] rfl (results1 rfl rfl) ((hle4.trans hle7).trans hle25) ⟨v40, c38, rfl, rfl, h39⟩

noncomputable def f_fault_New (a0 : ByteArray) (a1 : Int) (a2 : Int) : Option GErr :=
  (some (GErr.fault a0 a1 (GErr.code a2)))
def f_fault_New_post (a0 : ByteArray) (a1 : Int) (a2 : Int) : GErr → Value → IM → HL → Prop :=
  fun (r0 : GErr) (v : Value) (M' : IM) (H' : HL) => (GV r0) = v ∧ H' = []
set_option maxHeartbeats 1000000 in
set_option maxRecDepth 100000 in
theorem f_fault_New_ok (a0 : ByteArray) (a1 : Int) (a2 : Int) (M : IM) (res : GErr) (h : f_fault_New a0 a1 a2 = some res) :
    Tri Try.prog 39 #[(.string a0), (.int .i64 a1), (.int .i64 a2)] M [] (f_fault_New_post a0 a1 a2 res) := by
  unfold f_fault_New at h
  refine Tri.enter (fn := Try.f39) Try.func39 rfl (Nat.le_of_ble_eq_true rfl) ?_
  intro F ρ hρ
  refine WC.seq ?_
  refine WC.region ?_
  refine WL.pure (v := (GV GErr.nil)) (PO.assign rfl) rfl ?_
  refine WL.nil ?_
  refine WQ.thenC ?_
  refine WC.seq ?_
  refine WC.region ?_
  refine WL.pure (v := (.string a0)) (PO.move (hρ 0)) rfl ?_
  refine WL.pure (v := (.int .i64 a1)) (PO.move (hρ 1)) rfl ?_
  refine WL.pure (v := (.int .i64 a2)) (PO.move (hρ 2)) rfl ?_
  refine WL.pure (v := (GV (GErr.code a2))) (PO.makeInterface cc58 rfl) rfl ?_
  refine WL.pure (v := (.agg #[(.string a0), (.int .i64 a1), (GV (GErr.code a2))])) (PO.buildL (cl := [(.string a0), (.int .i64 a1), (GV (GErr.code a2))]) ze71 fp71 (Parts.cons (congrArg Value.cells (show ev _ _ = (.string a0) from rfl)) (Parts.cons (congrArg Value.cells (show ev _ _ = (.int .i64 a1) from rfl)) (Parts.cons ((congrArg Value.cells (show ev _ _ = (GV (GErr.code a2)) from rfl)).trans (GErr.val_cells _ _ _ _)) Parts.nil))) rfl) rfl ?_
  refine WL.pure (v := (GV (GErr.fault a0 a1 (GErr.code a2)))) (PO.makeInterface cc71 rfl) rfl ?_
  refine WL.pure (v := (GV (GErr.fault a0 a1 (GErr.code a2)))) (PO.assign rfl) rfl ?_
  refine WL.nil ?_
  refine WQ.thenC ?_
  refine WC.ret ?_
  exact WQ.returnsF h [] rfl (results1 rfl rfl) (IM.le.refl _) ⟨rfl, rfl⟩

noncomputable def f_spans_Check_l0 (a0 : (List T_api_Span)) (s_ : Int) : Option (Int ⊕ (Unit ⊕ GErr)) :=
  match s_ with
  | x3 =>
    (if (decide (x3 < (a0.length : Int))) = true then (grd (0 ≤ x3 ∧ x3 < a0.length) (((if (decide (((rd a0 x3).Term) < (0 : Int))) = true then (some true) else (if (decide ((1073741824 : Int) < ((rd a0 x3).Term))) = true then (some true) else (if (decide (((rd a0 x3).Start) < (0 : Int))) = true then (some true) else (some (decide ((1073741824 : Int) < ((rd a0 x3).Start))))))) : Option Bool).bind fun (x14 : Bool) => (if x14 = true then ((f_fault_New (⟨#[115, 112, 97, 110]⟩ : ByteArray) x3 (2 : Int)).bind fun (r20 : GErr) => (some (Sum.inr (Sum.inr r20)))) else (((if (decide ((0 : Int) < x3)) = true then (grd (0 ≤ IntKind.i64.wrap (x3 - (1 : Int)) ∧ IntKind.i64.wrap (x3 - (1 : Int)) < a0.length) (if (decide (((rd a0 x3).Term) ≤ ((rd a0 (IntKind.i64.wrap (x3 - (1 : Int)))).Term))) = true then (some true) else (grd (0 ≤ IntKind.i64.wrap (x3 - (1 : Int)) ∧ IntKind.i64.wrap (x3 - (1 : Int)) < a0.length) (some (decide (((rd a0 x3).Start) ≤ ((rd a0 (IntKind.i64.wrap (x3 - (1 : Int)))).Start))))))) else (some false)) : Option Bool).bind fun (x25 : Bool) => (if x25 = true then ((f_fault_New (⟨#[115, 112, 97, 110]⟩ : ByteArray) x3 (10 : Int)).bind fun (r44 : GErr) => (some (Sum.inr (Sum.inr r44)))) else (some (Sum.inl (IntKind.i64.wrap (x3 + (1 : Int)))))))))) else (some (Sum.inr (Sum.inl ()))))
noncomputable def f_spans_Check (a0 : (List T_api_Span)) : Option GErr :=
  ((((iter (f_spans_Check_l0 a0) (0 : Int)).bind (Sum.elim (fun _ => (some (Sum.inl ()))) (fun (x4 : GErr) => (((some x4)).bind fun r => some (Sum.inr r))))) : Option (Unit ⊕ GErr)).bind (Sum.elim (fun _ => (some GErr.nil)) some))
def f_spans_Check_post (a0 : (List T_api_Span)) (v0 : Value) : GErr → Value → IM → HL → Prop :=
  fun (r0 : GErr) (v : Value) (M' : IM) (H' : HL) => (GV r0) = v ∧ H' = []
set_option maxHeartbeats 1000000 in
set_option maxRecDepth 100000 in
theorem f_spans_Check_ok (a0 : (List T_api_Span)) (M : IM) (v0 : Value) (h0 : RS kd_api_Span M v0 a0) (res : GErr) (h : f_spans_Check a0 = some res) :
    Tri Try.prog 30 #[v0] M [] (f_spans_Check_post a0 v0 res) := by
  unfold f_spans_Check at h
  refine Tri.enter (fn := Try.f30) Try.func30 rfl (Nat.le_of_ble_eq_true rfl) ?_
  intro F ρ hρ
  refine WC.seq ?_
  refine WC.region ?_
  refine WL.pure (v := (GV GErr.nil)) (PO.assign rfl) rfl ?_
  refine WL.nil ?_
  refine WQ.thenC ?_
  obtain ⟨j1, hj1, h⟩ := bnd h
  refine WC.joinE (fun (_ : Unit) (ρ' : Nat → Value) (M' : IM) (H' : HL) => M.le M' ∧ F = H') j1 ?_ ?_
  · have h31 := h
    have h := hj1
    refine WC.seq ?_
    refine WC.region ?_
    refine WL.pure (v := v0) (PO.move (hρ 0)) rfl ?_
    refine WL.pure (v := (.int .i64 (a0.length : Int))) (PO.lenS Try.underlying35 rfl h0.len) rfl ?_
    refine WL.pure (v := (.int .i64 (0 : Int))) (PO.move rfl) rfl ?_
    refine WL.nil ?_
    refine WQ.thenC ?_
    refine WC.block ?_
    obtain ⟨e2, he2, hK2⟩ := bnd h
    clear h
    refine WC.loop he2 (fun (x3 : Int) (ρ' : Nat → Value) (M' : IM) (H' : HL) => M.le M' ∧ F = H' ∧ ρ' 0 = v0 ∧ ρ' 5 = v0 ∧ ρ' 6 = (.int .i64 (a0.length : Int)) ∧ ρ' 7 = (.int .i64 x3)) ?_ ?_
    · exact ⟨(IM.le.refl _), rfl, (hρ 0), rfl, rfl, rfl⟩
    · rintro x3 o2 ρ2 M2 H2 h ⟨hle2, rfl, hs2_0, hs2_5, hs2_6, hs2_7⟩
      unfold f_spans_Check_l0 at h
      have h0 := h0.mono hle2
      refine WC.seq ?_
      refine WC.region ?_
      refine WL.pure (v := (.bool (decide (x3 < (a0.length : Int))))) (PO.lss hs2_7 hs2_6) rfl ?_
      refine WL.nil ?_
      refine WQ.thenC ?_
      refine WC.seq ?_
      refine WC.cond (b := decide (x3 < (a0.length : Int))) rfl (fun hb5 => ?_) (fun hb5 => ?_)
      · have h := ite_t hb5 h
        refine WC.skip ?_
        refine WQ.thenC ?_
        refine WC.seq ?_
        refine WC.block ?_
        refine WC.seq ?_
        refine WC.region ?_
        refine WL.pure (v := (.int .i64 x3)) (PO.move hs2_7) rfl ?_
        obtain ⟨hg6, h⟩ := grd_i h
        obtain ⟨p7, cs8, hat9, hrc10, hhas11⟩ := h0.at hg6.1 hg6.2 (by decide)
        obtain rfl := kd_api_Span_open hrc10
        refine WL.pure (v := (.pointer (some p7))) (PO.indexAddr (n := a0.length) Try.underlying35 sz50 hs2_5 hs2_7 hg6.1 hg6.2 hat9) rfl ?_
        refine WL.pure (v := (.agg #[(.int .i64 ((rd a0 x3).Term)), (.int .i64 ((rd a0 x3).Start))])) (PO.loadMA (cs := [(.int .i64 ((rd a0 x3).Term)), (.int .i64 ((rd a0 x3).Start))]) ag50 sz50 rfl hhas11) rfl ?_
        refine WL.eff (EO.alloc ze50 rfl) rfl ?_
        rintro _ _ _ - ⟨rfl, g13, rfl, rfl⟩
        refine WL.pure (v := (.int .i64 x3)) (PO.assign rfl) rfl ?_
        refine WL.eff (EO.store (v := (.agg #[(.int .i64 ((rd a0 x3).Term)), (.int .i64 ((rd a0 x3).Start))])) (arr' := #[(.int .i64 ((rd a0 x3).Term)), (.int .i64 ((rd a0 x3).Start))]) sz50 rfl rfl (onesOf (Ones.cons rfl (Ones.cons rfl Ones.nil))) (Nat.le_of_ble_eq_true rfl) (.inl (by decide)) rfl) rfl ?_
        rintro _ _ _ - ⟨rfl, rfl⟩
        refine WL.nil ?_
        refine WQ.thenC ?_
        refine WC.seq ?_
        obtain ⟨x14, hj15, h⟩ := bnd h
        refine WC.joinF (fun (x14 : Bool) (ρ' : Nat → Value) (M' : IM) (H' : HL) => M2.le M' ∧ [(g13, .cells #[(.int .i64 ((rd a0 x3).Term)), (.int .i64 ((rd a0 x3).Start))] 50 (0, 0))] :: F = H' ∧ ρ' 0 = v0 ∧ ρ' 3 = (.int .i64 x3) ∧ ρ' 4 = (.pointer (some ⟨g13, 0, none⟩)) ∧ ρ' 5 = v0 ∧ ρ' 6 = (.int .i64 (a0.length : Int)) ∧ ρ' 7 = (.int .i64 x3) ∧ ρ' 29 = (.bool x14)) x14 ?_ ?_
        · have h315 := h
          have h := hj15
          refine WC.region ?_
          refine WL.pure (v := (.pointer (some ⟨g13, 0, none⟩))) (PO.fieldAddr fo50_0 rfl rfl) rfl ?_
          refine WL.pure (v := (.int .i64 ((rd a0 x3).Term))) (PO.loadB 0 pl3 rfl rfl rfl) rfl ?_
          refine WL.pure (v := (.bool (decide (((rd a0 x3).Term) < (0 : Int))))) (PO.lss rfl rfl) rfl ?_
          refine WL.pure (v := (.bool (decide (((rd a0 x3).Term) < (0 : Int))))) (PO.move rfl) rfl ?_
          rcases Bool.eq_false_or_eq_true (decide (((rd a0 x3).Term) < (0 : Int))) with hb16 | hb16
          · have h := ite_t hb16 h
            refine WL.off 15 rfl rfl hb16 rfl ?_
            refine WL.off 15 rfl rfl hb16 rfl ?_
            refine WL.off 15 rfl rfl hb16 rfl ?_
            refine WL.pure (v := (.bool true)) (PO.pickT rfl hb16 rfl) rfl ?_
            refine WL.pure (v := (.bool true)) (PO.move rfl) rfl ?_
            refine WL.off 20 rfl rfl rfl rfl ?_
            refine WL.off 20 rfl rfl rfl rfl ?_
            refine WL.off 20 rfl rfl rfl rfl ?_
            refine WL.pure (v := (.bool true)) (PO.pickT rfl rfl rfl) rfl ?_
            refine WL.pure (v := (.bool true)) (PO.move rfl) rfl ?_
            refine WL.off 25 rfl rfl rfl rfl ?_
            refine WL.off 25 rfl rfl rfl rfl ?_
            refine WL.off 25 rfl rfl rfl rfl ?_
            refine WL.pure (v := (.bool true)) (PO.pickT rfl rfl rfl) rfl ?_
            refine WL.nil ?_
            obtain rfl := Option.some.inj h
            refine WQ.thenJ ?_
            exact ⟨(IM.le.refl _), rfl, hs2_0, rfl, rfl, hs2_5, hs2_6, hs2_7, rfl⟩
          · have h := ite_f hb16 h
            refine WL.on 15 rfl rfl hb16 ?_
            refine WL.pure (v := (.pointer (some ⟨g13, 0, none⟩))) (PO.fieldAddr fo50_0 rfl rfl) rfl ?_
            refine WL.on 15 rfl rfl hb16 ?_
            refine WL.pure (v := (.int .i64 ((rd a0 x3).Term))) (PO.loadB 0 pl3 rfl rfl rfl) rfl ?_
            refine WL.on 15 rfl rfl hb16 ?_
            refine WL.pure (v := (.bool (decide ((1073741824 : Int) < ((rd a0 x3).Term))))) (PO.gtr rfl rfl) rfl ?_
            refine WL.pure (v := (.bool (decide ((1073741824 : Int) < ((rd a0 x3).Term))))) (PO.pickF rfl hb16 rfl) rfl ?_
            refine WL.pure (v := (.bool (decide ((1073741824 : Int) < ((rd a0 x3).Term))))) (PO.move rfl) rfl ?_
            rcases Bool.eq_false_or_eq_true (decide ((1073741824 : Int) < ((rd a0 x3).Term))) with hb17 | hb17
            · have h := ite_t hb17 h
              refine WL.off 20 rfl rfl hb17 rfl ?_
              refine WL.off 20 rfl rfl hb17 rfl ?_
              refine WL.off 20 rfl rfl hb17 rfl ?_
              refine WL.pure (v := (.bool true)) (PO.pickT rfl hb17 rfl) rfl ?_
              refine WL.pure (v := (.bool true)) (PO.move rfl) rfl ?_
              refine WL.off 25 rfl rfl rfl rfl ?_
              refine WL.off 25 rfl rfl rfl rfl ?_
              refine WL.off 25 rfl rfl rfl rfl ?_
              refine WL.pure (v := (.bool true)) (PO.pickT rfl rfl rfl) rfl ?_
              refine WL.nil ?_
              obtain rfl := Option.some.inj h
              refine WQ.thenJ ?_
              exact ⟨(IM.le.refl _), rfl, hs2_0, rfl, rfl, hs2_5, hs2_6, hs2_7, rfl⟩
            · have h := ite_f hb17 h
              refine WL.on 20 rfl rfl hb17 ?_
              refine WL.pure (v := (.pointer (some ⟨g13, 1, none⟩))) (PO.fieldAddr fo50_1 rfl rfl) rfl ?_
              refine WL.on 20 rfl rfl hb17 ?_
              refine WL.pure (v := (.int .i64 ((rd a0 x3).Start))) (PO.loadB 0 pl3 rfl rfl rfl) rfl ?_
              refine WL.on 20 rfl rfl hb17 ?_
              refine WL.pure (v := (.bool (decide (((rd a0 x3).Start) < (0 : Int))))) (PO.lss rfl rfl) rfl ?_
              refine WL.pure (v := (.bool (decide (((rd a0 x3).Start) < (0 : Int))))) (PO.pickF rfl hb17 rfl) rfl ?_
              refine WL.pure (v := (.bool (decide (((rd a0 x3).Start) < (0 : Int))))) (PO.move rfl) rfl ?_
              rcases Bool.eq_false_or_eq_true (decide (((rd a0 x3).Start) < (0 : Int))) with hb18 | hb18
              · have h := ite_t hb18 h
                refine WL.off 25 rfl rfl hb18 rfl ?_
                refine WL.off 25 rfl rfl hb18 rfl ?_
                refine WL.off 25 rfl rfl hb18 rfl ?_
                refine WL.pure (v := (.bool true)) (PO.pickT rfl hb18 rfl) rfl ?_
                refine WL.nil ?_
                obtain rfl := Option.some.inj h
                refine WQ.thenJ ?_
                exact ⟨(IM.le.refl _), rfl, hs2_0, rfl, rfl, hs2_5, hs2_6, hs2_7, rfl⟩
              · have h := ite_f hb18 h
                refine WL.on 25 rfl rfl hb18 ?_
                refine WL.pure (v := (.pointer (some ⟨g13, 1, none⟩))) (PO.fieldAddr fo50_1 rfl rfl) rfl ?_
                refine WL.on 25 rfl rfl hb18 ?_
                refine WL.pure (v := (.int .i64 ((rd a0 x3).Start))) (PO.loadB 0 pl3 rfl rfl rfl) rfl ?_
                refine WL.on 25 rfl rfl hb18 ?_
                refine WL.pure (v := (.bool (decide ((1073741824 : Int) < ((rd a0 x3).Start))))) (PO.gtr rfl rfl) rfl ?_
                refine WL.pure (v := (.bool (decide ((1073741824 : Int) < ((rd a0 x3).Start))))) (PO.pickF rfl hb18 rfl) rfl ?_
                refine WL.nil ?_
                obtain rfl := Option.some.inj h
                refine WQ.thenJ ?_
                exact ⟨(IM.le.refl _), rfl, hs2_0, rfl, rfl, hs2_5, hs2_6, hs2_7, rfl⟩
        · rintro ρ15 M15 H15 ⟨hle15, rfl, hs15_0, hs15_3, hs15_4, hs15_5, hs15_6, hs15_7, hs15_29⟩
          have h0 := h0.mono hle15
          refine WC.cond (b := x14) hs15_29 (fun hb19 => ?_) (fun hb19 => ?_)
          · have h := ite_t hb19 h
            refine WC.seq ?_
            refine WC.region ?_
            refine WL.pure (v := (.int .i64 x3)) (PO.move hs15_3) rfl ?_
            obtain ⟨r20, hr21, h⟩ := bnd h
            refine WL.eff (EO.call0 co39 (args3 (show ev _ _ = (.string (⟨#[115, 112, 97, 110]⟩ : ByteArray)) from rfl) (show ev _ _ = (.int .i64 x3) from rfl) (show ev _ _ = (.int .i64 (2 : Int)) from rfl)) (f_fault_New_ok (⟨#[115, 112, 97, 110]⟩ : ByteArray) x3 (2 : Int) _ r20 hr21)) rfl ?_
            rintro _ M22 _ hle23 ⟨_, ⟨rfl, rfl⟩, rfl⟩
            have h0 := h0.mono hle23
            refine WL.a0 ?_
            refine WL.pure (v := (GV r20)) (PO.assign rfl) rfl ?_
            refine WL.nil ?_
            refine WQ.thenC ?_
            refine WC.ret ?_
            refine WQ.thenR ?_
            refine WQ.blockR ?_
            refine WQ.thenR ?_
            refine WQ.leaveR (Sum.inr r20) (Option.some.inj h).symm (fun heq2 => ?_)
            subst heq2
            have h := (elimR hK2)
            refine WQ.blockR ?_
            refine WQ.thenR ?_
            have h := KK.early h h31
            refine WQ.drop ?_
            exact WQ.returnsF h [] rfl (results1 rfl rfl) ((hle2.trans hle15).trans hle23) ⟨rfl, rfl⟩
          · have h := ite_f hb19 h
            refine WC.skip ?_
            refine WQ.thenC ?_
            obtain ⟨x25, hj26, h⟩ := bnd h
            refine WC.joinF (fun (x25 : Bool) (ρ' : Nat → Value) (M' : IM) (H' : HL) => M15.le M' ∧ [(g13, .cells #[(.int .i64 ((rd a0 x3).Term)), (.int .i64 ((rd a0 x3).Start))] 50 (0, 0))] :: F = H' ∧ ρ' 0 = v0 ∧ ρ' 3 = (.int .i64 x3) ∧ ρ' 5 = v0 ∧ ρ' 6 = (.int .i64 (a0.length : Int)) ∧ ρ' 7 = (.int .i64 x3) ∧ ρ' 55 = (.bool x25)) x25 ?_ ?_
            · have h326 := h
              have h := hj26
              refine WC.draw [0, 1, 3, 7, 7, 23, 63, 127, 255, 7, 519, 2047, 4095, 8191, 8191, 24575, 65535, 131071, 262143, 8191, 532479, 2097151, 4194303, 8388607] (.pure 0 (.pure 1 (.pure 2 (.pure 3 (.pure 4 (.pure 5 (.pure 6 (.pure 7 (.pure 8 (.pure 9 (.pure 10 (.pure 11 (.pure 12 (.pure 13 (.pure 14 (.pure 15 (.pure 16 (.pure 17 (.pure 18 (.pure 19 (.pure 20 (.pure 21 (.pure 22 (.pure 23 .done)))))))))))))))))))))))) mixed (by kernel_rfl) ?_
              refine WT.pure (v := (.int .i64 x3)) rfl (PO.move hs15_3) rfl ?_
              refine WT.pure (v := (.bool (decide ((0 : Int) < x3)))) rfl (PO.gtr rfl rfl) rfl ?_
              refine WT.pure (v := (.bool (decide ((0 : Int) < x3)))) rfl (PO.move rfl) rfl ?_
              rcases Bool.eq_false_or_eq_true (decide ((0 : Int) < x3)) with hb27 | hb27
              · have h := ite_t hb27 h
                refine WT.pureOn (v := v0) 34 rfl rfl rfl hb27 (PO.move hs15_0) rfl ?_
                refine WT.pureOn (v := (.int .i64 x3)) 34 rfl rfl rfl hb27 (PO.move hs15_3) rfl ?_
                refine WT.pureOn (v := (.int .i64 (IntKind.i64.wrap (x3 - (1 : Int))))) 34 rfl rfl rfl hb27 (PO.sub rfl rfl) rfl ?_
                obtain ⟨hg28, h⟩ := grd_i h
                obtain ⟨p29, cs30, hat31, hrc32, hhas33⟩ := h0.at hg28.1 hg28.2 (by decide)
                obtain rfl := kd_api_Span_open hrc32
                refine WT.pureOn (v := (.pointer (some p29))) 34 rfl rfl rfl hb27 (PO.indexAddr (n := a0.length) Try.underlying35 sz50 rfl rfl hg28.1 hg28.2 hat31) rfl ?_
                refine WT.pureOn (v := (.pointer (some (p29.add 0)))) 34 rfl rfl rfl hb27 (PO.fieldAddr fo50_0 rfl rfl) rfl ?_
                refine WT.pureOn (v := (.int .i64 ((rd a0 (IntKind.i64.wrap (x3 - (1 : Int)))).Term))) 34 rfl rfl rfl hb27 (PO.loadM pl3 rfl (IM.has0 hhas33)) rfl ?_
                refine WT.pureOn (v := (.pointer (some ⟨g13, 0, none⟩))) 34 rfl rfl rfl hb27 (PO.fieldAddr fo50_0 hs15_4 rfl) rfl ?_
                refine WT.pureOn (v := (.int .i64 ((rd a0 x3).Term))) 34 rfl rfl rfl hb27 (PO.loadB 0 pl3 rfl rfl rfl) rfl ?_
                refine WT.pureOn (v := (.bool (decide (((rd a0 x3).Term) ≤ ((rd a0 (IntKind.i64.wrap (x3 - (1 : Int)))).Term))))) 34 rfl rfl rfl hb27 (PO.geq rfl rfl) rfl ?_
                refine WT.pureOn (v := (.bool (decide (((rd a0 x3).Term) ≤ ((rd a0 (IntKind.i64.wrap (x3 - (1 : Int)))).Term))))) 34 rfl rfl rfl hb27 (PO.move rfl) rfl ?_
                rcases Bool.eq_false_or_eq_true (decide (((rd a0 x3).Term) ≤ ((rd a0 (IntKind.i64.wrap (x3 - (1 : Int)))).Term))) with hb35 | hb35
                · have h := ite_t hb35 h
                  refine WT.pureOff 44 rfl rfl rfl hb35 rfl ?_
                  refine WT.pureOff 44 rfl rfl rfl hb35 rfl ?_
                  refine WT.pureOff 44 rfl rfl rfl hb35 rfl ?_
                  refine WT.pureOff 44 rfl rfl rfl hb35 rfl ?_
                  refine WT.pureOff 44 rfl rfl rfl hb35 rfl ?_
                  refine WT.pureOff 44 rfl rfl rfl hb35 rfl ?_
                  refine WT.pureOff 44 rfl rfl rfl hb35 rfl ?_
                  refine WT.pureOff 44 rfl rfl rfl hb35 rfl ?_
                  refine WT.pureOff 44 rfl rfl rfl hb35 rfl ?_
                  refine WT.pureOn (v := (.bool true)) 34 rfl rfl rfl hb27 (PO.pickT rfl hb35 rfl) rfl ?_
                  refine WT.pure (v := (.bool true)) rfl (PO.pickT rfl hb27 rfl) rfl ?_
                  refine WT.fin ?_
                  obtain rfl := Option.some.inj h
                  refine WQ.thenJ ?_
                  exact ⟨(IM.le.refl _), rfl, hs15_0, hs15_3, hs15_5, hs15_6, hs15_7, rfl⟩
                · have h := ite_f hb35 h
                  refine WT.pureOn (v := v0) 44 rfl rfl rfl hb35 (PO.move hs15_0) rfl ?_
                  refine WT.pureOn (v := (.int .i64 x3)) 44 rfl rfl rfl hb35 (PO.move hs15_3) rfl ?_
                  refine WT.pureOn (v := (.int .i64 (IntKind.i64.wrap (x3 - (1 : Int))))) 44 rfl rfl rfl hb35 (PO.sub rfl rfl) rfl ?_
                  obtain ⟨hg36, h⟩ := grd_i h
                  obtain ⟨p37, cs38, hat39, hrc40, hhas41⟩ := h0.at hg36.1 hg36.2 (by decide)
                  obtain rfl := kd_api_Span_open hrc40
                  refine WT.pureOn (v := (.pointer (some p37))) 44 rfl rfl rfl hb35 (PO.indexAddr (n := a0.length) Try.underlying35 sz50 rfl rfl hg36.1 hg36.2 hat39) rfl ?_
                  refine WT.pureOn (v := (.pointer (some (p37.add 1)))) 44 rfl rfl rfl hb35 (PO.fieldAddr fo50_1 rfl rfl) rfl ?_
                  refine WT.pureOn (v := (.int .i64 ((rd a0 (IntKind.i64.wrap (x3 - (1 : Int)))).Start))) 44 rfl rfl rfl hb35 (PO.loadM pl3 rfl (hhas41 1 _ rfl)) rfl ?_
                  refine WT.pureOn (v := (.pointer (some ⟨g13, 1, none⟩))) 44 rfl rfl rfl hb35 (PO.fieldAddr fo50_1 hs15_4 rfl) rfl ?_
                  refine WT.pureOn (v := (.int .i64 ((rd a0 x3).Start))) 44 rfl rfl rfl hb35 (PO.loadB 0 pl3 rfl rfl rfl) rfl ?_
                  refine WT.pureOn (v := (.bool (decide (((rd a0 x3).Start) ≤ ((rd a0 (IntKind.i64.wrap (x3 - (1 : Int)))).Start))))) 44 rfl rfl rfl hb35 (PO.geq rfl rfl) rfl ?_
                  refine WT.pureOn (v := (.bool (decide (((rd a0 x3).Start) ≤ ((rd a0 (IntKind.i64.wrap (x3 - (1 : Int)))).Start))))) 34 rfl rfl rfl hb27 (PO.pickF rfl hb35 rfl) rfl ?_
                  refine WT.pure (v := (.bool (decide (((rd a0 x3).Start) ≤ ((rd a0 (IntKind.i64.wrap (x3 - (1 : Int)))).Start))))) rfl (PO.pickT rfl hb27 rfl) rfl ?_
                  refine WT.fin ?_
                  obtain rfl := Option.some.inj h
                  refine WQ.thenJ ?_
                  exact ⟨(IM.le.refl _), rfl, hs15_0, hs15_3, hs15_5, hs15_6, hs15_7, rfl⟩
              · have h := ite_f hb27 h
                refine WT.pureOff 34 rfl rfl rfl hb27 rfl ?_
                refine WT.pureOff 34 rfl rfl rfl hb27 rfl ?_
                refine WT.pureOff 34 rfl rfl rfl hb27 rfl ?_
                refine WT.pureOff 34 rfl rfl rfl hb27 rfl ?_
                refine WT.pureOff 34 rfl rfl rfl hb27 rfl ?_
                refine WT.pureOff 34 rfl rfl rfl hb27 rfl ?_
                refine WT.pureOff 34 rfl rfl rfl hb27 rfl ?_
                refine WT.pureOff 34 rfl rfl rfl hb27 rfl ?_
                refine WT.pureOff 34 rfl rfl rfl hb27 rfl ?_
                refine WT.pureOff 34 rfl rfl rfl hb27 rfl ?_
                refine WT.pureOffU 44 rfl rfl rfl  rfl ?_
                refine WT.pureOffU 44 rfl rfl rfl  rfl ?_
                refine WT.pureOffU 44 rfl rfl rfl  rfl ?_
                refine WT.pureOffU 44 rfl rfl rfl  rfl ?_
                refine WT.pureOffU 44 rfl rfl rfl  rfl ?_
                refine WT.pureOffU 44 rfl rfl rfl  rfl ?_
                refine WT.pureOffU 44 rfl rfl rfl  rfl ?_
                refine WT.pureOffU 44 rfl rfl rfl  rfl ?_
                refine WT.pureOffU 44 rfl rfl rfl  rfl ?_
                refine WT.pureOff 34 rfl rfl rfl hb27 rfl ?_
                refine WT.pure (v := (.bool false)) rfl (PO.pickF rfl hb27 rfl) rfl ?_
                refine WT.fin ?_
                obtain rfl := Option.some.inj h
                refine WQ.thenJ ?_
                exact ⟨(IM.le.refl _), rfl, hs15_0, hs15_3, hs15_5, hs15_6, hs15_7, rfl⟩
            · rintro ρ26 M26 H26 ⟨hle26, rfl, hs26_0, hs26_3, hs26_5, hs26_6, hs26_7, hs26_55⟩
              have h0 := h0.mono hle26
              refine WC.cond (b := x25) hs26_55 (fun hb43 => ?_) (fun hb43 => ?_)
              · have h := ite_t hb43 h
                refine WC.seq ?_
                refine WC.region ?_
                refine WL.pure (v := (.int .i64 x3)) (PO.move hs26_3) rfl ?_
                obtain ⟨r44, hr45, h⟩ := bnd h
                refine WL.eff (EO.call0 co39 (args3 (show ev _ _ = (.string (⟨#[115, 112, 97, 110]⟩ : ByteArray)) from rfl) (show ev _ _ = (.int .i64 x3) from rfl) (show ev _ _ = (.int .i64 (10 : Int)) from rfl)) (f_fault_New_ok (⟨#[115, 112, 97, 110]⟩ : ByteArray) x3 (10 : Int) _ r44 hr45)) rfl ?_
                rintro _ M46 _ hle47 ⟨_, ⟨rfl, rfl⟩, rfl⟩
                have h0 := h0.mono hle47
                refine WL.a0 ?_
                refine WL.pure (v := (GV r44)) (PO.assign rfl) rfl ?_
                refine WL.nil ?_
                refine WQ.thenC ?_
                refine WC.ret ?_
                refine WQ.blockR ?_
                refine WQ.thenR ?_
                refine WQ.leaveR (Sum.inr r44) (Option.some.inj h).symm (fun heq2 => ?_)
                subst heq2
                have h := (elimR hK2)
                refine WQ.blockR ?_
                refine WQ.thenR ?_
                have h := KK.early h h31
                refine WQ.drop ?_
                exact WQ.returnsF h [] rfl (results1 rfl rfl) (((hle2.trans hle15).trans hle26).trans hle47) ⟨rfl, rfl⟩
              · have h := ite_f hb43 h
                refine WC.skip ?_
                refine WQ.blockN ?_
                refine WQ.thenC ?_
                refine WC.region ?_
                refine WL.pure (v := (.int .i64 (IntKind.i64.wrap (x3 + (1 : Int))))) (PO.add hs26_7 rfl) rfl ?_
                refine WL.pure (v := (.int .i64 (IntKind.i64.wrap (x3 + (1 : Int))))) (PO.move rfl) rfl ?_
                refine WL.nil ?_
                refine WQ.drop ?_
                refine WQ.again (IntKind.i64.wrap (x3 + (1 : Int))) (Option.some.inj h).symm ?_
                exact ⟨((hle2.trans hle15).trans hle26), rfl, hs26_0, hs26_5, hs26_6, rfl⟩
      · have h := ite_f hb5 h
        refine WC.exit ?_
        refine WQ.thenE ?_
        refine WQ.leaveE (Sum.inl ()) (Option.some.inj h).symm (fun heq2 => ?_)
        subst heq2
        have h := elimL hK2
        refine WQ.blockH ?_
        refine WQ.thenFE h ?_
        exact ⟨hle2, rfl⟩
  · rintro _ ρ1 M1 H1 rfl ⟨hle1, rfl⟩
    refine WC.seq ?_
    refine WC.region ?_
    refine WL.pure (v := (GV GErr.nil)) (PO.assign rfl) rfl ?_
    refine WL.nil ?_
    refine WQ.thenC ?_
    refine WC.ret ?_
    exact WQ.returnsF h [] rfl (results1 rfl rfl) hle1 ⟨rfl, rfl⟩


end Go.Proofs.Ytmifmgpfjamdkaa.G
