/- Go functions: what they come to, and that they do. Printed by a program of the session (gen). -/
import Derived.Test.YtmifmgpfjamdkaaSF
import Derived.Test.YtmifmgpfjamdkaaS2
set_option linter.unusedVariables false
set_option linter.unusedSimpArgs false
namespace Go.Proofs.Ytmifmgpfjamdkaa.G
open Go Go.KK

noncomputable def f_ref13_EndOf_l0 (a0 : (List T_api_Span)) (a1 : Int) (a2 : Int) (s_ : Int) : Option (Int ⊕ (Unit ⊕ (Int × Int))) :=
  match s_ with
  | x3 =>
    (if (decide ((0 : Int) ≤ x3)) = true then (grd (0 ≤ x3 ∧ x3 < a0.length) (if (decide (a1 < ((rd a0 x3).Term))) = true then (some (Sum.inl (IntKind.i64.wrap (x3 - (1 : Int))))) else (if (decide (x3 = (IntKind.i64.wrap ((a0.length : Int) - (1 : Int))))) = true then (grd (0 ≤ x3 ∧ x3 < a0.length) (some (Sum.inr (Sum.inr ((rd a0 x3).Term, a2))))) else (grd (0 ≤ x3 ∧ x3 < a0.length) (grd (0 ≤ IntKind.i64.wrap (x3 + (1 : Int)) ∧ IntKind.i64.wrap (x3 + (1 : Int)) < a0.length) (some (Sum.inr (Sum.inr ((rd a0 x3).Term, (rd a0 (IntKind.i64.wrap (x3 + (1 : Int)))).Start))))))))) else (some (Sum.inr (Sum.inl ()))))
noncomputable def f_ref13_EndOf (a0 : (List T_api_Span)) (a1 : Int) (a2 : Int) : Option (Int × Int × Bool) :=
  ((((iter (f_ref13_EndOf_l0 a0 a1 a2) (IntKind.i64.wrap ((a0.length : Int) - (1 : Int)))).bind (Sum.elim (fun _ => (some (Sum.inl ()))) (fun (x4, x5) => (((some (x4, x5, true))).bind fun r => some (Sum.inr r))))) : Option (Unit ⊕ (Int × Int × Bool))).bind (Sum.elim (fun _ => (some ((0 : Int), (0 : Int), false))) some))
def f_ref13_EndOf_post (a0 : (List T_api_Span)) (a1 : Int) (a2 : Int) (v0 : Value) : (Int × Int × Bool) → Value → IM → HL → Prop :=
  fun (p_ : (Int × Int × Bool)) (v : Value) (M' : IM) (H' : HL) => match p_ with | (r0, r1, r2) => (.tuple #[(.int .i64 r0), (.int .i64 r1), (.bool r2)]) = v ∧ H' = []
set_option maxHeartbeats 1000000 in
set_option maxRecDepth 100000 in
theorem f_ref13_EndOf_ok (a0 : (List T_api_Span)) (a1 : Int) (a2 : Int) (M : IM) (v0 : Value) (h0 : RS kd_api_Span M v0 a0) (res : (Int × Int × Bool)) (h : f_ref13_EndOf a0 a1 a2 = some res) :
    Tri Try.prog 23 #[v0, (.int .i64 a1), (.int .i64 a2)] M [] (f_ref13_EndOf_post a0 a1 a2 v0 res) := by
  unfold f_ref13_EndOf at h
  refine Tri.enter (fn := Try.f23) Try.func23 rfl (Nat.le_of_ble_eq_true rfl) ?_
  intro F ρ hρ
  refine WC.seq ?_
  refine WC.region ?_
  refine WL.pure (v := (.int .i64 (0 : Int))) (PO.assign rfl) rfl ?_
  refine WL.pure (v := (.int .i64 (0 : Int))) (PO.assign rfl) rfl ?_
  refine WL.pure (v := (.bool false)) (PO.assign rfl) rfl ?_
  refine WL.nil ?_
  refine WQ.thenC ?_
  obtain ⟨j1, hj1, h⟩ := bnd h
  refine WC.joinE (fun (_ : Unit) (ρ' : Nat → Value) (M' : IM) (H' : HL) => M.le M' ∧ F = H') j1 ?_ ?_
  · have h31 := h
    have h := hj1
    refine WC.seq ?_
    refine WC.region ?_
    refine WL.pure (v := v0) (PO.move (hρ 0)) rfl ?_
    refine WL.pure (v := (.int .i64 (a0.length : Int))) (PO.lenS Try.underlying35 rfl h0.len) rfl ?_
    refine WL.pure (v := (.int .i64 (IntKind.i64.wrap ((a0.length : Int) - (1 : Int))))) (PO.sub rfl rfl) rfl ?_
    refine WL.pure (v := (.int .i64 (IntKind.i64.wrap ((a0.length : Int) - (1 : Int))))) (PO.assign rfl) rfl ?_
    refine WL.nil ?_
    refine WQ.thenC ?_
    refine WC.block ?_
    obtain ⟨e2, he2, hK2⟩ := bnd h
    clear h
    refine WC.loop he2 (fun (x3 : Int) (ρ' : Nat → Value) (M' : IM) (H' : HL) => M.le M' ∧ F = H' ∧ ρ' 0 = v0 ∧ ρ' 1 = (.int .i64 a1) ∧ ρ' 2 = (.int .i64 a2) ∧ ρ' 9 = (.int .i64 x3)) ?_ ?_
    · exact ⟨(IM.le.refl _), rfl, (hρ 0), (hρ 1), (hρ 2), rfl⟩
    · rintro x3 o2 ρ2 M2 H2 h ⟨hle2, rfl, hs2_0, hs2_1, hs2_2, hs2_9⟩
      unfold f_ref13_EndOf_l0 at h
      have h0 := h0.mono hle2
      refine WC.seq ?_
      refine WC.seq ?_
      refine WC.region ?_
      refine WL.pure (v := (.int .i64 x3)) (PO.move hs2_9) rfl ?_
      refine WL.pure (v := (.bool (decide ((0 : Int) ≤ x3)))) (PO.geq rfl rfl) rfl ?_
      refine WL.nil ?_
      refine WQ.thenC ?_
      refine WC.cond (b := decide ((0 : Int) ≤ x3)) rfl (fun hb6 => ?_) (fun hb6 => ?_)
      · have h := ite_t hb6 h
        refine WC.skip ?_
        refine WQ.thenC ?_
        refine WC.seq ?_
        refine WC.block ?_
        refine WC.seq ?_
        refine WC.seq ?_
        refine WC.region ?_
        refine WL.pure (v := v0) (PO.move hs2_0) rfl ?_
        refine WL.pure (v := (.int .i64 x3)) (PO.move hs2_9) rfl ?_
        obtain ⟨hg7, h⟩ := grd_i h
        obtain ⟨p8, cs9, hat10, hrc11, hhas12⟩ := h0.at hg7.1 hg7.2 (by decide)
        obtain rfl := kd_api_Span_open hrc11
        refine WL.pure (v := (.pointer (some p8))) (PO.indexAddr (n := a0.length) Try.underlying35 sz50 rfl rfl hg7.1 hg7.2 hat10) rfl ?_
        refine WL.pure (v := (.pointer (some (p8.add 0)))) (PO.fieldAddr fo50_0 rfl rfl) rfl ?_
        refine WL.pure (v := (.int .i64 ((rd a0 x3).Term))) (PO.loadM pl3 rfl (IM.has0 hhas12)) rfl ?_
        refine WL.pure (v := (.int .i64 a1)) (PO.move hs2_1) rfl ?_
        refine WL.pure (v := (.bool (decide (a1 < ((rd a0 x3).Term))))) (PO.gtr rfl rfl) rfl ?_
        refine WL.nil ?_
        refine WQ.thenC ?_
        refine WC.cond (b := decide (a1 < ((rd a0 x3).Term))) rfl (fun hb14 => ?_) (fun hb14 => ?_)
        · have h := ite_t hb14 h
          refine WC.exit ?_
          refine WQ.thenE ?_
          refine WQ.blockH ?_
          refine WQ.thenC ?_
          refine WC.region ?_
          refine WL.pure (v := (.int .i64 x3)) (PO.move hs2_9) rfl ?_
          refine WL.pure (v := (.int .i64 (IntKind.i64.wrap (x3 - (1 : Int))))) (PO.sub rfl rfl) rfl ?_
          refine WL.pure (v := (.int .i64 (IntKind.i64.wrap (x3 - (1 : Int))))) (PO.assign rfl) rfl ?_
          refine WL.nil ?_
          refine WQ.again (IntKind.i64.wrap (x3 - (1 : Int))) (Option.some.inj h).symm ?_
          exact ⟨hle2, rfl, hs2_0, hs2_1, hs2_2, rfl⟩
        · have h := ite_f hb14 h
          refine WC.skip ?_
          refine WQ.thenC ?_
          refine WC.seq ?_
          refine WC.seq ?_
          refine WC.region ?_
          refine WL.pure (v := (.int .i64 x3)) (PO.move hs2_9) rfl ?_
          refine WL.pure (v := v0) (PO.move hs2_0) rfl ?_
          refine WL.pure (v := (.int .i64 (a0.length : Int))) (PO.lenS Try.underlying35 rfl h0.len) rfl ?_
          refine WL.pure (v := (.int .i64 (IntKind.i64.wrap ((a0.length : Int) - (1 : Int))))) (PO.sub rfl rfl) rfl ?_
          refine WL.pure (v := (.bool (decide (x3 = (IntKind.i64.wrap ((a0.length : Int) - (1 : Int))))))) (PO.eql rfl rfl) rfl ?_
          refine WL.nil ?_
          refine WQ.thenC ?_
          refine WC.cond (b := decide (x3 = (IntKind.i64.wrap ((a0.length : Int) - (1 : Int))))) rfl (fun hb15 => ?_) (fun hb15 => ?_)
          · have h := ite_t hb15 h
            refine WC.seq ?_
            refine WC.region ?_
            refine WL.pure (v := v0) (PO.move hs2_0) rfl ?_
            refine WL.pure (v := (.int .i64 x3)) (PO.move hs2_9) rfl ?_
            obtain ⟨hg16, h⟩ := grd_i h
            obtain ⟨p17, cs18, hat19, hrc20, hhas21⟩ := h0.at hg16.1 hg16.2 (by decide)
            obtain rfl := kd_api_Span_open hrc20
            refine WL.pure (v := (.pointer (some p17))) (PO.indexAddr (n := a0.length) Try.underlying35 sz50 rfl rfl hg16.1 hg16.2 hat19) rfl ?_
            refine WL.pure (v := (.pointer (some (p17.add 0)))) (PO.fieldAddr fo50_0 rfl rfl) rfl ?_
            refine WL.pure (v := (.int .i64 ((rd a0 x3).Term))) (PO.loadM pl3 rfl (IM.has0 hhas21)) rfl ?_
            refine WL.pure (v := (.int .i64 a2)) (PO.move hs2_2) rfl ?_
            refine WL.pure (v := (.int .i64 ((rd a0 x3).Term))) (PO.assign rfl) rfl ?_
            refine WL.pure (v := (.int .i64 a2)) (PO.assign rfl) rfl ?_
            refine WL.pure (v := (.bool true)) (PO.assign rfl) rfl ?_
            refine WL.nil ?_
            refine WQ.thenC ?_
            refine WC.ret ?_
            refine WQ.thenR ?_
            refine WQ.blockR ?_
            refine WQ.thenR ?_
            refine WQ.leaveR (Sum.inr ((rd a0 x3).Term, a2)) (Option.some.inj h).symm (fun heq2 => ?_)
            subst heq2
            have h := (elimR hK2)
            refine WQ.blockR ?_
            refine WQ.thenR ?_
            have h := KK.early h h31
            exact WQ.returnsF h [] rfl (results3 rfl rfl rfl rfl) hle2 ⟨rfl, rfl⟩
          · have h := ite_f hb15 h
            refine WC.skip ?_
            refine WQ.thenC ?_
            refine WC.seq ?_
            refine WC.draw [0, 0, 3, 7, 15, 0, 0, 64, 224, 480, 992, 31, 4095, 8191] (.pure 0 (.pure 1 (.pure 2 (.pure 3 (.pure 4 (.pure 5 (.pure 6 (.pure 7 (.pure 8 (.pure 9 (.pure 10 (.pure 11 (.pure 12 (.pure 13 .done)))))))))))))) mixed (by kernel_rfl) ?_
            refine WT.pure (v := v0) rfl (PO.move hs2_0) rfl ?_
            refine WT.pure (v := (.int .i64 x3)) rfl (PO.move hs2_9) rfl ?_
            obtain ⟨hg23, h⟩ := grd_i h
            obtain ⟨p24, cs25, hat26, hrc27, hhas28⟩ := h0.at hg23.1 hg23.2 (by decide)
            obtain rfl := kd_api_Span_open hrc27
            refine WT.pure (v := (.pointer (some p24))) rfl (PO.indexAddr (n := a0.length) Try.underlying35 sz50 rfl rfl hg23.1 hg23.2 hat26) rfl ?_
            refine WT.pure (v := (.pointer (some (p24.add 0)))) rfl (PO.fieldAddr fo50_0 rfl rfl) rfl ?_
            refine WT.pure (v := (.int .i64 ((rd a0 x3).Term))) rfl (PO.loadM pl3 rfl (IM.has0 hhas28)) rfl ?_
            refine WT.pure (v := v0) rfl (PO.move hs2_0) rfl ?_
            refine WT.pure (v := (.int .i64 x3)) rfl (PO.move hs2_9) rfl ?_
            refine WT.pure (v := (.int .i64 (IntKind.i64.wrap (x3 + (1 : Int))))) rfl (PO.add rfl rfl) rfl ?_
            obtain ⟨hg30, h⟩ := grd_i h
            obtain ⟨p31, cs32, hat33, hrc34, hhas35⟩ := h0.at hg30.1 hg30.2 (by decide)
            obtain rfl := kd_api_Span_open hrc34
            refine WT.pure (v := (.pointer (some p31))) rfl (PO.indexAddr (n := a0.length) Try.underlying35 sz50 rfl rfl hg30.1 hg30.2 hat33) rfl ?_
            refine WT.pure (v := (.pointer (some (p31.add 1)))) rfl (PO.fieldAddr fo50_1 rfl rfl) rfl ?_
            refine WT.pure (v := (.int .i64 ((rd a0 (IntKind.i64.wrap (x3 + (1 : Int)))).Start))) rfl (PO.loadM pl3 rfl (hhas35 1 _ rfl)) rfl ?_
            refine WT.pure (v := (.int .i64 ((rd a0 x3).Term))) rfl (PO.assign rfl) rfl ?_
            refine WT.pure (v := (.int .i64 ((rd a0 (IntKind.i64.wrap (x3 + (1 : Int)))).Start))) rfl (PO.assign rfl) rfl ?_
            refine WT.pure (v := (.bool true)) rfl (PO.assign rfl) rfl ?_
            refine WT.fin ?_
            refine WQ.thenC ?_
            refine WC.ret ?_
            refine WQ.blockR ?_
            refine WQ.thenR ?_
            refine WQ.leaveR (Sum.inr ((rd a0 x3).Term, (rd a0 (IntKind.i64.wrap (x3 + (1 : Int)))).Start)) (Option.some.inj h).symm (fun heq2 => ?_)
            subst heq2
            have h := (elimR hK2)
            refine WQ.blockR ?_
            refine WQ.thenR ?_
            have h := KK.early h h31
            exact WQ.returnsF h [] rfl (results3 rfl rfl rfl rfl) hle2 ⟨rfl, rfl⟩
      · have h := ite_f hb6 h
        refine WC.exit ?_
        refine WQ.thenE ?_
        refine WQ.leaveE (Sum.inl ()) (Option.some.inj h).symm (fun heq2 => ?_)
        subst heq2
        have h := elimL hK2
        refine WQ.blockH ?_
        refine WQ.thenFE h ?_
        exact ⟨hle2, rfl⟩
  · rintro _ ρ1 M1 H1 rfl ⟨hle1, rfl⟩
    refine WC.seq ?_
    refine WC.region ?_
    refine WL.pure (v := (.int .i64 (0 : Int))) (PO.assign rfl) rfl ?_
    refine WL.pure (v := (.int .i64 (0 : Int))) (PO.assign rfl) rfl ?_
    refine WL.pure (v := (.bool false)) (PO.assign rfl) rfl ?_
    refine WL.nil ?_
    refine WQ.thenC ?_
    refine WC.ret ?_
    exact WQ.returnsF h [] rfl (results3 rfl rfl rfl rfl) hle1 ⟨rfl, rfl⟩

noncomputable def f_ref13_first (a0 : (List T_api_Span)) : Option Int :=
  (if (decide ((a0.length : Int) = (0 : Int))) = true then (some (0 : Int)) else (grd (0 ≤ (0 : Int) ∧ (0 : Int) < a0.length) (some ((rd a0 (0 : Int)).Start))))
def f_ref13_first_post (a0 : (List T_api_Span)) (v0 : Value) : Int → Value → IM → HL → Prop :=
  fun (r0 : Int) (v : Value) (M' : IM) (H' : HL) => (.int .i64 r0) = v ∧ H' = []
set_option maxHeartbeats 1000000 in
set_option maxRecDepth 100000 in
theorem f_ref13_first_ok (a0 : (List T_api_Span)) (M : IM) (v0 : Value) (h0 : RS kd_api_Span M v0 a0) (res : Int) (h : f_ref13_first a0 = some res) :
    Tri Try.prog 38 #[v0] M [] (f_ref13_first_post a0 v0 res) := by
  unfold f_ref13_first at h
  refine Tri.enter (fn := Try.f38) Try.func38 rfl (Nat.le_of_ble_eq_true rfl) ?_
  intro F ρ hρ
  refine WC.seq ?_
  refine WC.region ?_
  refine WL.pure (v := (.int .i64 (0 : Int))) (PO.assign rfl) rfl ?_
  refine WL.nil ?_
  refine WQ.thenC ?_
  refine WC.seq ?_
  refine WC.seq ?_
  refine WC.region ?_
  refine WL.pure (v := v0) (PO.move (hρ 0)) rfl ?_
  refine WL.pure (v := (.int .i64 (a0.length : Int))) (PO.lenS Try.underlying35 rfl h0.len) rfl ?_
  refine WL.pure (v := (.bool (decide ((a0.length : Int) = (0 : Int))))) (PO.eql rfl rfl) rfl ?_
  refine WL.nil ?_
  refine WQ.thenC ?_
  refine WC.cond (b := decide ((a0.length : Int) = (0 : Int))) rfl (fun hb1 => ?_) (fun hb1 => ?_)
  · have h := ite_t hb1 h
    refine WC.seq ?_
    refine WC.region ?_
    refine WL.pure (v := (.int .i64 (0 : Int))) (PO.assign rfl) rfl ?_
    refine WL.nil ?_
    refine WQ.thenC ?_
    refine WC.ret ?_
    refine WQ.thenR ?_
    exact WQ.returnsF h [] rfl (results1 rfl rfl) (IM.le.refl _) ⟨rfl, rfl⟩
  · have h := ite_f hb1 h
    refine WC.skip ?_
    refine WQ.thenC ?_
    refine WC.seq ?_
    refine WC.region ?_
    refine WL.pure (v := v0) (PO.move (hρ 0)) rfl ?_
    obtain ⟨hg2, h⟩ := grd_i h
    obtain ⟨p3, cs4, hat5, hrc6, hhas7⟩ := h0.at hg2.1 hg2.2 (by decide)
    obtain rfl := kd_api_Span_open hrc6
    refine WL.pure (v := (.pointer (some p3))) (PO.indexAddr (n := a0.length) Try.underlying35 sz50 rfl rfl hg2.1 hg2.2 hat5) rfl ?_
    refine WL.pure (v := (.pointer (some (p3.add 1)))) (PO.fieldAddr fo50_1 rfl rfl) rfl ?_
    refine WL.pure (v := (.int .i64 ((rd a0 (0 : Int)).Start))) (PO.loadM pl3 rfl (hhas7 1 _ rfl)) rfl ?_
    refine WL.pure (v := (.int .i64 ((rd a0 (0 : Int)).Start))) (PO.assign rfl) rfl ?_
    refine WL.nil ?_
    refine WQ.thenC ?_
    refine WC.ret ?_
    exact WQ.returnsF h [] rfl (results1 rfl rfl) (IM.le.refl _) ⟨rfl, rfl⟩

noncomputable def f_ref13_Parted (a0 : (List T_api_Span)) (a1 : Int) (a2 : Int) (a3 : Int) : Option (Int × Int × Bool) :=
  ((f_ref13_EndOf a0 a2 a1).bind fun (r1, r2, r3) => (if (!r3) = true then ((f_ref13_first a0).bind fun (r11 : Int) => (some ((0 : Int), r11, true))) else (((if (decide (r1 = a2)) = true then (some (decide (a3 ≤ r2))) else (some false)) : Option Bool).bind fun (x16 : Bool) => (if x16 = true then (some ((0 : Int), (0 : Int), false)) else (some (r1, r2, true))))))
def f_ref13_Parted_post (a0 : (List T_api_Span)) (a1 : Int) (a2 : Int) (a3 : Int) (v0 : Value) : (Int × Int × Bool) → Value → IM → HL → Prop :=
  fun (p_ : (Int × Int × Bool)) (v : Value) (M' : IM) (H' : HL) => match p_ with | (r0, r1, r2) => (.tuple #[(.int .i64 r0), (.int .i64 r1), (.bool r2)]) = v ∧ H' = []
set_option maxHeartbeats 1000000 in
set_option maxRecDepth 100000 in
theorem f_ref13_Parted_ok (a0 : (List T_api_Span)) (a1 : Int) (a2 : Int) (a3 : Int) (M : IM) (v0 : Value) (h0 : RS kd_api_Span M v0 a0) (res : (Int × Int × Bool)) (h : f_ref13_Parted a0 a1 a2 a3 = some res) :
    Tri Try.prog 25 #[v0, (.int .i64 a1), (.int .i64 a2), (.int .i64 a3)] M [] (f_ref13_Parted_post a0 a1 a2 a3 v0 res) := by
  unfold f_ref13_Parted at h
  refine Tri.enter (fn := Try.f25) Try.func25 rfl (Nat.le_of_ble_eq_true rfl) ?_
  intro F ρ hρ
  refine WC.seq ?_
  refine WC.region ?_
  refine WL.pure (v := (.int .i64 (0 : Int))) (PO.assign rfl) rfl ?_
  refine WL.pure (v := (.int .i64 (0 : Int))) (PO.assign rfl) rfl ?_
  refine WL.pure (v := (.bool false)) (PO.assign rfl) rfl ?_
  refine WL.nil ?_
  refine WQ.thenC ?_
  refine WC.seq ?_
  refine WC.region ?_
  refine WL.pure (v := v0) (PO.move (hρ 0)) rfl ?_
  refine WL.pure (v := (.int .i64 a2)) (PO.move (hρ 2)) rfl ?_
  refine WL.pure (v := (.int .i64 a1)) (PO.move (hρ 1)) rfl ?_
  obtain ⟨⟨r1, r2, r3⟩, hr4, h⟩ := bnd h
  refine WL.eff (EO.call0 co23 (args3 (show ev _ _ = v0 from rfl) (show ev _ _ = (.int .i64 a2) from rfl) (show ev _ _ = (.int .i64 a1) from rfl)) (f_ref13_EndOf_ok a0 a2 a1 _ _ h0 (r1, r2, r3) hr4)) rfl ?_
  rintro _ M5 _ hle6 ⟨_, ⟨rfl, rfl⟩, rfl⟩
  have h0 := h0.mono hle6
  refine WL.a0 ?_
  refine WL.pure (v := (.tuple #[(.int .i64 r1), (.int .i64 r2), (.bool r3)])) (PO.move rfl) rfl ?_
  refine WL.pure (v := (.int .i64 r1)) (PO.extract rfl rfl) rfl ?_
  refine WL.pure (v := (.int .i64 r2)) (PO.extract rfl rfl) rfl ?_
  refine WL.pure (v := (.bool r3)) (PO.extract rfl rfl) rfl ?_
  refine WL.pure (v := (.int .i64 r1)) (PO.assign rfl) rfl ?_
  refine WL.pure (v := (.int .i64 r2)) (PO.assign rfl) rfl ?_
  refine WL.pure (v := (.bool r3)) (PO.assign rfl) rfl ?_
  refine WL.nil ?_
  refine WQ.thenC ?_
  refine WC.seq ?_
  refine WC.seq ?_
  refine WC.region ?_
  refine WL.pure (v := (.bool r3)) (PO.move rfl) rfl ?_
  refine WL.pure (v := (.bool (!r3))) (PO.not rfl) rfl ?_
  refine WL.nil ?_
  refine WQ.thenC ?_
  refine WC.cond (b := !r3) rfl (fun hb10 => ?_) (fun hb10 => ?_)
  · have h := ite_t hb10 h
    refine WC.seq ?_
    refine WC.region ?_
    refine WL.pure (v := v0) (PO.move (hρ 0)) rfl ?_
    obtain ⟨r11, hr12, h⟩ := bnd h
    refine WL.eff (EO.call0 co38 (args1 (show ev _ _ = v0 from rfl)) (f_ref13_first_ok a0 _ _ h0 r11 hr12)) rfl ?_
    rintro _ M13 _ hle14 ⟨_, ⟨rfl, rfl⟩, rfl⟩
    have h0 := h0.mono hle14
    refine WL.a0 ?_
    refine WL.pure (v := (.int .i64 (0 : Int))) (PO.assign rfl) rfl ?_
    refine WL.pure (v := (.int .i64 r11)) (PO.assign rfl) rfl ?_
    refine WL.pure (v := (.bool true)) (PO.assign rfl) rfl ?_
    refine WL.nil ?_
    refine WQ.thenC ?_
    refine WC.ret ?_
    refine WQ.thenR ?_
    exact WQ.returnsF h [] rfl (results3 rfl rfl rfl rfl) (hle6.trans hle14) ⟨rfl, rfl⟩
  · have h := ite_f hb10 h
    refine WC.skip ?_
    refine WQ.thenC ?_
    refine WC.seq ?_
    obtain ⟨x16, hj17, h⟩ := bnd h
    refine WC.joinF (fun (x16 : Bool) (ρ' : Nat → Value) (M' : IM) (H' : HL) => M5.le M' ∧ F = H' ∧ ρ' 11 = (.int .i64 r1) ∧ ρ' 12 = (.int .i64 r2) ∧ ρ' 33 = (.bool x16)) x16 ?_ ?_
    · have h317 := h
      have h := hj17
      refine WC.region ?_
      refine WL.pure (v := (.int .i64 r1)) (PO.move rfl) rfl ?_
      refine WL.pure (v := (.int .i64 a2)) (PO.move (hρ 2)) rfl ?_
      refine WL.pure (v := (.bool (decide (r1 = a2)))) (PO.eql rfl rfl) rfl ?_
      refine WL.pure (v := (.bool (decide (r1 = a2)))) (PO.move rfl) rfl ?_
      rcases Bool.eq_false_or_eq_true (decide (r1 = a2)) with hb18 | hb18
      · have h := ite_t hb18 h
        refine WL.on 29 rfl rfl hb18 ?_
        refine WL.pure (v := (.int .i64 r2)) (PO.move rfl) rfl ?_
        refine WL.on 29 rfl rfl hb18 ?_
        refine WL.pure (v := (.int .i64 a3)) (PO.move (hρ 3)) rfl ?_
        refine WL.on 29 rfl rfl hb18 ?_
        refine WL.pure (v := (.bool (decide (a3 ≤ r2)))) (PO.geq rfl rfl) rfl ?_
        refine WL.pure (v := (.bool (decide (a3 ≤ r2)))) (PO.pickT rfl hb18 rfl) rfl ?_
        refine WL.nil ?_
        obtain rfl := Option.some.inj h
        refine WQ.thenJ ?_
        exact ⟨(IM.le.refl _), rfl, rfl, rfl, rfl⟩
      · have h := ite_f hb18 h
        refine WL.off 29 rfl rfl hb18 rfl ?_
        refine WL.off 29 rfl rfl hb18 rfl ?_
        refine WL.off 29 rfl rfl hb18 rfl ?_
        refine WL.pure (v := (.bool false)) (PO.pickF rfl hb18 rfl) rfl ?_
        refine WL.nil ?_
        obtain rfl := Option.some.inj h
        refine WQ.thenJ ?_
        exact ⟨(IM.le.refl _), rfl, rfl, rfl, rfl⟩
    · rintro ρ17 M17 H17 ⟨hle17, rfl, hs17_11, hs17_12, hs17_33⟩
      refine WC.cond (b := x16) hs17_33 (fun hb19 => ?_) (fun hb19 => ?_)
      · have h := ite_t hb19 h
        refine WC.seq ?_
        refine WC.region ?_
        refine WL.pure (v := (.int .i64 (0 : Int))) (PO.assign rfl) rfl ?_
        refine WL.pure (v := (.int .i64 (0 : Int))) (PO.assign rfl) rfl ?_
        refine WL.pure (v := (.bool false)) (PO.assign rfl) rfl ?_
        refine WL.nil ?_
        refine WQ.thenC ?_
        refine WC.ret ?_
        refine WQ.thenR ?_
        exact WQ.returnsF h [] rfl (results3 rfl rfl rfl rfl) (hle6.trans hle17) ⟨rfl, rfl⟩
      · have h := ite_f hb19 h
        refine WC.skip ?_
        refine WQ.thenC ?_
        refine WC.seq ?_
        refine WC.region ?_
        refine WL.pure (v := (.int .i64 r1)) (PO.move hs17_11) rfl ?_
        refine WL.pure (v := (.int .i64 r2)) (PO.move hs17_12) rfl ?_
        refine WL.pure (v := (.int .i64 r1)) (PO.assign rfl) rfl ?_
        refine WL.pure (v := (.int .i64 r2)) (PO.assign rfl) rfl ?_
        refine WL.pure (v := (.bool true)) (PO.assign rfl) rfl ?_
        refine WL.nil ?_
        refine WQ.thenC ?_
        refine WC.ret ?_
        exact WQ.returnsF h [] rfl (results3 rfl rfl rfl rfl) (hle6.trans hle17) ⟨rfl, rfl⟩

noncomputable def f_ref13_Keep (a0 : (List T_api_Span)) (a1 : Int) (a2 : Int) (a3 : Int) : Option Int :=
  ((f_ref13_EndOf a0 a2 a1).bind fun (r1, r2, r3) => (if (!r3) = true then ((f_ref13_first a0).bind fun (r11 : Int) => (some r11)) else (((if (decide (r1 = a2)) = true then (some (decide (a3 < r2))) else (some false)) : Option Bool).bind fun (x16 : Bool) => (if x16 = true then (some a3) else (some r2)))))
def f_ref13_Keep_post (a0 : (List T_api_Span)) (a1 : Int) (a2 : Int) (a3 : Int) (v0 : Value) : Int → Value → IM → HL → Prop :=
  fun (r0 : Int) (v : Value) (M' : IM) (H' : HL) => (.int .i64 r0) = v ∧ H' = []
set_option maxHeartbeats 1000000 in
set_option maxRecDepth 100000 in
theorem f_ref13_Keep_ok (a0 : (List T_api_Span)) (a1 : Int) (a2 : Int) (a3 : Int) (M : IM) (v0 : Value) (h0 : RS kd_api_Span M v0 a0) (res : Int) (h : f_ref13_Keep a0 a1 a2 a3 = some res) :
    Tri Try.prog 27 #[v0, (.int .i64 a1), (.int .i64 a2), (.int .i64 a3)] M [] (f_ref13_Keep_post a0 a1 a2 a3 v0 res) := by
  unfold f_ref13_Keep at h
  refine Tri.enter (fn := Try.f27) Try.func27 rfl (Nat.le_of_ble_eq_true rfl) ?_
  intro F ρ hρ
  refine WC.seq ?_
  refine WC.region ?_
  refine WL.pure (v := (.int .i64 (0 : Int))) (PO.assign rfl) rfl ?_
  refine WL.nil ?_
  refine WQ.thenC ?_
  refine WC.seq ?_
  refine WC.region ?_
  refine WL.pure (v := v0) (PO.move (hρ 0)) rfl ?_
  refine WL.pure (v := (.int .i64 a2)) (PO.move (hρ 2)) rfl ?_
  refine WL.pure (v := (.int .i64 a1)) (PO.move (hρ 1)) rfl ?_
  obtain ⟨⟨r1, r2, r3⟩, hr4, h⟩ := bnd h
  refine WL.eff (EO.call0 co23 (args3 (show ev _ _ = v0 from rfl) (show ev _ _ = (.int .i64 a2) from rfl) (show ev _ _ = (.int .i64 a1) from rfl)) (f_ref13_EndOf_ok a0 a2 a1 _ _ h0 (r1, r2, r3) hr4)) rfl ?_
  rintro _ M5 _ hle6 ⟨_, ⟨rfl, rfl⟩, rfl⟩
  have h0 := h0.mono hle6
  refine WL.a0 ?_
  refine WL.pure (v := (.tuple #[(.int .i64 r1), (.int .i64 r2), (.bool r3)])) (PO.move rfl) rfl ?_
  refine WL.pure (v := (.int .i64 r1)) (PO.extract rfl rfl) rfl ?_
  refine WL.pure (v := (.int .i64 r2)) (PO.extract rfl rfl) rfl ?_
  refine WL.pure (v := (.bool r3)) (PO.extract rfl rfl) rfl ?_
  refine WL.pure (v := (.int .i64 r1)) (PO.assign rfl) rfl ?_
  refine WL.pure (v := (.int .i64 r2)) (PO.assign rfl) rfl ?_
  refine WL.pure (v := (.bool r3)) (PO.assign rfl) rfl ?_
  refine WL.nil ?_
  refine WQ.thenC ?_
  refine WC.seq ?_
  refine WC.seq ?_
  refine WC.region ?_
  refine WL.pure (v := (.bool r3)) (PO.move rfl) rfl ?_
  refine WL.pure (v := (.bool (!r3))) (PO.not rfl) rfl ?_
  refine WL.nil ?_
  refine WQ.thenC ?_
  refine WC.cond (b := !r3) rfl (fun hb10 => ?_) (fun hb10 => ?_)
  · have h := ite_t hb10 h
    refine WC.seq ?_
    refine WC.region ?_
    refine WL.pure (v := v0) (PO.move (hρ 0)) rfl ?_
    obtain ⟨r11, hr12, h⟩ := bnd h
    refine WL.eff (EO.call0 co38 (args1 (show ev _ _ = v0 from rfl)) (f_ref13_first_ok a0 _ _ h0 r11 hr12)) rfl ?_
    rintro _ M13 _ hle14 ⟨_, ⟨rfl, rfl⟩, rfl⟩
    have h0 := h0.mono hle14
    refine WL.a0 ?_
    refine WL.pure (v := (.int .i64 r11)) (PO.assign rfl) rfl ?_
    refine WL.nil ?_
    refine WQ.thenC ?_
    refine WC.ret ?_
    refine WQ.thenR ?_
    exact WQ.returnsF h [] rfl (results1 rfl rfl) (hle6.trans hle14) ⟨rfl, rfl⟩
  · have h := ite_f hb10 h
    refine WC.skip ?_
    refine WQ.thenC ?_
    refine WC.seq ?_
    obtain ⟨x16, hj17, h⟩ := bnd h
    refine WC.joinF (fun (x16 : Bool) (ρ' : Nat → Value) (M' : IM) (H' : HL) => M5.le M' ∧ F = H' ∧ ρ' 3 = (.int .i64 a3) ∧ ρ' 10 = (.int .i64 r2) ∧ ρ' 31 = (.bool x16)) x16 ?_ ?_
    · have h317 := h
      have h := hj17
      refine WC.region ?_
      refine WL.pure (v := (.int .i64 r1)) (PO.move rfl) rfl ?_
      refine WL.pure (v := (.int .i64 a2)) (PO.move (hρ 2)) rfl ?_
      refine WL.pure (v := (.bool (decide (r1 = a2)))) (PO.eql rfl rfl) rfl ?_
      refine WL.pure (v := (.bool (decide (r1 = a2)))) (PO.move rfl) rfl ?_
      rcases Bool.eq_false_or_eq_true (decide (r1 = a2)) with hb18 | hb18
      · have h := ite_t hb18 h
        refine WL.on 27 rfl rfl hb18 ?_
        refine WL.pure (v := (.int .i64 a3)) (PO.move (hρ 3)) rfl ?_
        refine WL.on 27 rfl rfl hb18 ?_
        refine WL.pure (v := (.int .i64 r2)) (PO.move rfl) rfl ?_
        refine WL.on 27 rfl rfl hb18 ?_
        refine WL.pure (v := (.bool (decide (a3 < r2)))) (PO.lss rfl rfl) rfl ?_
        refine WL.pure (v := (.bool (decide (a3 < r2)))) (PO.pickT rfl hb18 rfl) rfl ?_
        refine WL.nil ?_
        obtain rfl := Option.some.inj h
        refine WQ.thenJ ?_
        exact ⟨(IM.le.refl _), rfl, (hρ 3), rfl, rfl⟩
      · have h := ite_f hb18 h
        refine WL.off 27 rfl rfl hb18 rfl ?_
        refine WL.off 27 rfl rfl hb18 rfl ?_
        refine WL.off 27 rfl rfl hb18 rfl ?_
        refine WL.pure (v := (.bool false)) (PO.pickF rfl hb18 rfl) rfl ?_
        refine WL.nil ?_
        obtain rfl := Option.some.inj h
        refine WQ.thenJ ?_
        exact ⟨(IM.le.refl _), rfl, (hρ 3), rfl, rfl⟩
    · rintro ρ17 M17 H17 ⟨hle17, rfl, hs17_3, hs17_10, hs17_31⟩
      refine WC.cond (b := x16) hs17_31 (fun hb19 => ?_) (fun hb19 => ?_)
      · have h := ite_t hb19 h
        refine WC.seq ?_
        refine WC.region ?_
        refine WL.pure (v := (.int .i64 a3)) (PO.move hs17_3) rfl ?_
        refine WL.pure (v := (.int .i64 a3)) (PO.assign rfl) rfl ?_
        refine WL.nil ?_
        refine WQ.thenC ?_
        refine WC.ret ?_
        refine WQ.thenR ?_
        exact WQ.returnsF h [] rfl (results1 rfl rfl) (hle6.trans hle17) ⟨rfl, rfl⟩
      · have h := ite_f hb19 h
        refine WC.skip ?_
        refine WQ.thenC ?_
        refine WC.seq ?_
        refine WC.region ?_
        refine WL.pure (v := (.int .i64 r2)) (PO.move hs17_10) rfl ?_
        refine WL.pure (v := (.int .i64 r2)) (PO.assign rfl) rfl ?_
        refine WL.nil ?_
        refine WQ.thenC ?_
        refine WC.ret ?_
        exact WQ.returnsF h [] rfl (results1 rfl rfl) (hle6.trans hle17) ⟨rfl, rfl⟩

noncomputable def f_law13_SpansAsks (a0 : (List T_api_Span)) (a1 : Int) (a2 : Int) (a3 : Int) : Option Bool :=
  ((f_law13_may a0).bind fun (r1 : Bool) => (if (!r1) = true then ((f_law13_works).bind fun (r7 : Bool) => (some r7)) else ((f_spans_EndOf a0 a2 a1).bind fun (r12, r13, r14) => ((f_ref13_EndOf a0 a2 a1).bind fun (r21, r22, r23) => ((f_spans_Parted a0 a1 a2 a3).bind fun (r30, r31, r32) => ((f_ref13_Parted a0 a1 a2 a3).bind fun (r39, r40, r41) => (((if (decide (r12 = r21)) = true then (if (decide (r13 = r22)) = true then (if (r14 == r23) = true then (if (decide (r30 = r39)) = true then (if (decide (r31 = r40)) = true then (if (r32 == r41) = true then ((f_spans_Keep a0 a1 a2 a3).bind fun (r56 : Int) => ((f_ref13_Keep a0 a1 a2 a3).bind fun (r61 : Int) => (if (decide (r56 = r61)) = true then ((f_law13_works).bind fun (r67 : Bool) => (some r67)) else (some false)))) else (some false)) else (some false)) else (some false)) else (some false)) else (some false)) else (some false)) : Option Bool).bind fun (x48 : Bool) => (some x48))))))))
def f_law13_SpansAsks_post (a0 : (List T_api_Span)) (a1 : Int) (a2 : Int) (a3 : Int) (v0 : Value) : Bool → Value → IM → HL → Prop :=
  fun (r0 : Bool) (v : Value) (M' : IM) (H' : HL) => (.bool r0) = v ∧ H' = []
set_option maxHeartbeats 1000000 in
set_option maxRecDepth 100000 in
theorem f_law13_SpansAsks_ok (a0 : (List T_api_Span)) (a1 : Int) (a2 : Int) (a3 : Int) (M : IM) (v0 : Value) (h0 : RS kd_api_Span M v0 a0) (res : Bool) (h : f_law13_SpansAsks a0 a1 a2 a3 = some res) :
    Tri Try.prog 8 #[v0, (.int .i64 a1), (.int .i64 a2), (.int .i64 a3)] M [] (f_law13_SpansAsks_post a0 a1 a2 a3 v0 res) := by
  unfold f_law13_SpansAsks at h
  refine Tri.enter (fn := Try.f8) Try.func8 rfl (Nat.le_of_ble_eq_true rfl) ?_
  intro F ρ hρ
  refine WC.seq ?_
  refine WC.region ?_
  refine WL.pure (v := (.bool false)) (PO.assign rfl) rfl ?_
  refine WL.nil ?_
  refine WQ.thenC ?_
  refine WC.seq ?_
  refine WC.seq ?_
  refine WC.region ?_
  refine WL.pure (v := v0) (PO.move (hρ 0)) rfl ?_
  obtain ⟨r1, hr2, h⟩ := bnd h
  refine WL.eff (EO.call0 co20 (args1 (show ev _ _ = v0 from rfl)) (f_law13_may_ok a0 _ _ h0 r1 hr2)) rfl ?_
  rintro _ M3 _ hle4 ⟨_, ⟨rfl, rfl⟩, rfl⟩
  have h0 := h0.mono hle4
  refine WL.a0 ?_
  refine WL.pure (v := (.bool (!r1))) (PO.not rfl) rfl ?_
  refine WL.nil ?_
  refine WQ.thenC ?_
  refine WC.cond (b := !r1) rfl (fun hb6 => ?_) (fun hb6 => ?_)
  · have h := ite_t hb6 h
    refine WC.seq ?_
    refine WC.region ?_
    obtain ⟨r7, hr8, h⟩ := bnd h
    refine WL.eff (EO.call0 co21 (args0) (f_law13_works_ok _ r7 hr8)) rfl ?_
    rintro _ M9 _ hle10 ⟨_, ⟨rfl, rfl⟩, rfl⟩
    have h0 := h0.mono hle10
    refine WL.a0 ?_
    refine WL.pure (v := (.bool r7)) (PO.assign rfl) rfl ?_
    refine WL.nil ?_
    refine WQ.thenC ?_
    refine WC.ret ?_
    refine WQ.thenR ?_
    exact WQ.returnsF h [] rfl (results1 rfl rfl) (hle4.trans hle10) ⟨rfl, rfl⟩
  · have h := ite_f hb6 h
    refine WC.skip ?_
    refine WQ.thenC ?_
    refine WC.seq ?_
    refine WC.region ?_
    refine WL.pure (v := v0) (PO.move (hρ 0)) rfl ?_
    refine WL.pure (v := (.int .i64 a2)) (PO.move (hρ 2)) rfl ?_
    refine WL.pure (v := (.int .i64 a1)) (PO.move (hρ 1)) rfl ?_
    obtain ⟨⟨r12, r13, r14⟩, hr15, h⟩ := bnd h
    refine WL.eff (EO.call0 co22 (args3 (show ev _ _ = v0 from rfl) (show ev _ _ = (.int .i64 a2) from rfl) (show ev _ _ = (.int .i64 a1) from rfl)) (f_spans_EndOf_ok a0 a2 a1 _ _ h0 (r12, r13, r14) hr15)) rfl ?_
    rintro _ M16 _ hle17 ⟨_, ⟨rfl, rfl⟩, rfl⟩
    have h0 := h0.mono hle17
    refine WL.a0 ?_
    refine WL.pure (v := (.tuple #[(.int .i64 r12), (.int .i64 r13), (.bool r14)])) (PO.move rfl) rfl ?_
    refine WL.pure (v := (.int .i64 r12)) (PO.extract rfl rfl) rfl ?_
    refine WL.pure (v := (.int .i64 r13)) (PO.extract rfl rfl) rfl ?_
    refine WL.pure (v := (.bool r14)) (PO.extract rfl rfl) rfl ?_
    refine WL.pure (v := (.int .i64 r12)) (PO.assign rfl) rfl ?_
    refine WL.pure (v := (.int .i64 r13)) (PO.assign rfl) rfl ?_
    refine WL.pure (v := (.bool r14)) (PO.assign rfl) rfl ?_
    refine WL.nil ?_
    refine WQ.thenC ?_
    refine WC.seq ?_
    refine WC.region ?_
    refine WL.pure (v := v0) (PO.move (hρ 0)) rfl ?_
    refine WL.pure (v := (.int .i64 a2)) (PO.move (hρ 2)) rfl ?_
    refine WL.pure (v := (.int .i64 a1)) (PO.move (hρ 1)) rfl ?_
    obtain ⟨⟨r21, r22, r23⟩, hr24, h⟩ := bnd h
    refine WL.eff (EO.call0 co23 (args3 (show ev _ _ = v0 from rfl) (show ev _ _ = (.int .i64 a2) from rfl) (show ev _ _ = (.int .i64 a1) from rfl)) (f_ref13_EndOf_ok a0 a2 a1 _ _ h0 (r21, r22, r23) hr24)) rfl ?_
    rintro _ M25 _ hle26 ⟨_, ⟨rfl, rfl⟩, rfl⟩
    have h0 := h0.mono hle26
    refine WL.a0 ?_
    refine WL.pure (v := (.tuple #[(.int .i64 r21), (.int .i64 r22), (.bool r23)])) (PO.move rfl) rfl ?_
    refine WL.pure (v := (.int .i64 r21)) (PO.extract rfl rfl) rfl ?_
    refine WL.pure (v := (.int .i64 r22)) (PO.extract rfl rfl) rfl ?_
    refine WL.pure (v := (.bool r23)) (PO.extract rfl rfl) rfl ?_
    refine WL.pure (v := (.int .i64 r21)) (PO.assign rfl) rfl ?_
    refine WL.pure (v := (.int .i64 r22)) (PO.assign rfl) rfl ?_
    refine WL.pure (v := (.bool r23)) (PO.assign rfl) rfl ?_
    refine WL.nil ?_
    refine WQ.thenC ?_
    refine WC.seq ?_
    refine WC.region ?_
    refine WL.pure (v := v0) (PO.move (hρ 0)) rfl ?_
    refine WL.pure (v := (.int .i64 a1)) (PO.move (hρ 1)) rfl ?_
    refine WL.pure (v := (.int .i64 a2)) (PO.move (hρ 2)) rfl ?_
    refine WL.pure (v := (.int .i64 a3)) (PO.move (hρ 3)) rfl ?_
    obtain ⟨⟨r30, r31, r32⟩, hr33, h⟩ := bnd h
    refine WL.eff (EO.call0 co24 (args4 (show ev _ _ = v0 from rfl) (show ev _ _ = (.int .i64 a1) from rfl) (show ev _ _ = (.int .i64 a2) from rfl) (show ev _ _ = (.int .i64 a3) from rfl)) (f_spans_Parted_ok a0 a1 a2 a3 _ _ h0 (r30, r31, r32) hr33)) rfl ?_
    rintro _ M34 _ hle35 ⟨_, ⟨rfl, rfl⟩, rfl⟩
    have h0 := h0.mono hle35
    refine WL.a0 ?_
    refine WL.pure (v := (.tuple #[(.int .i64 r30), (.int .i64 r31), (.bool r32)])) (PO.move rfl) rfl ?_
    refine WL.pure (v := (.int .i64 r30)) (PO.extract rfl rfl) rfl ?_
    refine WL.pure (v := (.int .i64 r31)) (PO.extract rfl rfl) rfl ?_
    refine WL.pure (v := (.bool r32)) (PO.extract rfl rfl) rfl ?_
    refine WL.pure (v := (.int .i64 r30)) (PO.assign rfl) rfl ?_
    refine WL.pure (v := (.int .i64 r31)) (PO.assign rfl) rfl ?_
    refine WL.pure (v := (.bool r32)) (PO.assign rfl) rfl ?_
    refine WL.nil ?_
    refine WQ.thenC ?_
    refine WC.seq ?_
    refine WC.region ?_
    refine WL.pure (v := v0) (PO.move (hρ 0)) rfl ?_
    refine WL.pure (v := (.int .i64 a1)) (PO.move (hρ 1)) rfl ?_
    refine WL.pure (v := (.int .i64 a2)) (PO.move (hρ 2)) rfl ?_
    refine WL.pure (v := (.int .i64 a3)) (PO.move (hρ 3)) rfl ?_
    obtain ⟨⟨r39, r40, r41⟩, hr42, h⟩ := bnd h
    refine WL.eff (EO.call0 co25 (args4 (show ev _ _ = v0 from rfl) (show ev _ _ = (.int .i64 a1) from rfl) (show ev _ _ = (.int .i64 a2) from rfl) (show ev _ _ = (.int .i64 a3) from rfl)) (f_ref13_Parted_ok a0 a1 a2 a3 _ _ h0 (r39, r40, r41) hr42)) rfl ?_
    rintro _ M43 _ hle44 ⟨_, ⟨rfl, rfl⟩, rfl⟩
    have h0 := h0.mono hle44
    refine WL.a0 ?_
    refine WL.pure (v := (.tuple #[(.int .i64 r39), (.int .i64 r40), (.bool r41)])) (PO.move rfl) rfl ?_
    refine WL.pure (v := (.int .i64 r39)) (PO.extract rfl rfl) rfl ?_
    refine WL.pure (v := (.int .i64 r40)) (PO.extract rfl rfl) rfl ?_
    refine WL.pure (v := (.bool r41)) (PO.extract rfl rfl) rfl ?_
    refine WL.pure (v := (.int .i64 r39)) (PO.assign rfl) rfl ?_
    refine WL.pure (v := (.int .i64 r40)) (PO.assign rfl) rfl ?_
    refine WL.pure (v := (.bool r41)) (PO.assign rfl) rfl ?_
    refine WL.nil ?_
    refine WQ.thenC ?_
    obtain ⟨x48, hj49, h⟩ := bnd h
    refine WC.joinF (fun (x48 : Bool) (ρ' : Nat → Value) (M' : IM) (H' : HL) => M43.le M' ∧ F = H' ∧ ρ' 8 = (.bool x48)) x48 ?_ ?_
    · have h349 := h
      have h := hj49
      refine WC.region ?_
      refine WL.pure (v := (.int .i64 r12)) (PO.move rfl) rfl ?_
      refine WL.pure (v := (.int .i64 r21)) (PO.move rfl) rfl ?_
      refine WL.pure (v := (.bool (decide (r12 = r21)))) (PO.eql rfl rfl) rfl ?_
      refine WL.pure (v := (.bool (decide (r12 = r21)))) (PO.move rfl) rfl ?_
      rcases Bool.eq_false_or_eq_true (decide (r12 = r21)) with hb50 | hb50
      · have h := ite_t hb50 h
        refine WL.on 62 rfl rfl hb50 ?_
        refine WL.pure (v := (.int .i64 r13)) (PO.move rfl) rfl ?_
        refine WL.on 62 rfl rfl hb50 ?_
        refine WL.pure (v := (.int .i64 r22)) (PO.move rfl) rfl ?_
        refine WL.on 62 rfl rfl hb50 ?_
        refine WL.pure (v := (.bool (decide (r13 = r22)))) (PO.eql rfl rfl) rfl ?_
        refine WL.pure (v := (.bool (decide (r13 = r22)))) (PO.pickT rfl hb50 rfl) rfl ?_
        refine WL.pure (v := (.bool (decide (r13 = r22)))) (PO.move rfl) rfl ?_
        rcases Bool.eq_false_or_eq_true (decide (r13 = r22)) with hb51 | hb51
        · have h := ite_t hb51 h
          refine WL.on 67 rfl rfl hb51 ?_
          refine WL.pure (v := (.bool r14)) (PO.move rfl) rfl ?_
          refine WL.on 67 rfl rfl hb51 ?_
          refine WL.pure (v := (.bool r23)) (PO.move rfl) rfl ?_
          refine WL.on 67 rfl rfl hb51 ?_
          refine WL.pure (v := (.bool (r14 == r23))) (PO.beql Try.underlying4 rfl rfl) rfl ?_
          refine WL.pure (v := (.bool (r14 == r23))) (PO.pickT rfl hb51 rfl) rfl ?_
          refine WL.pure (v := (.bool (r14 == r23))) (PO.move rfl) rfl ?_
          rcases Bool.eq_false_or_eq_true (r14 == r23) with hb52 | hb52
          · have h := ite_t hb52 h
            refine WL.on 72 rfl rfl hb52 ?_
            refine WL.pure (v := (.int .i64 r30)) (PO.move rfl) rfl ?_
            refine WL.on 72 rfl rfl hb52 ?_
            refine WL.pure (v := (.int .i64 r39)) (PO.move rfl) rfl ?_
            refine WL.on 72 rfl rfl hb52 ?_
            refine WL.pure (v := (.bool (decide (r30 = r39)))) (PO.eql rfl rfl) rfl ?_
            refine WL.pure (v := (.bool (decide (r30 = r39)))) (PO.pickT rfl hb52 rfl) rfl ?_
            refine WL.pure (v := (.bool (decide (r30 = r39)))) (PO.move rfl) rfl ?_
            rcases Bool.eq_false_or_eq_true (decide (r30 = r39)) with hb53 | hb53
            · have h := ite_t hb53 h
              refine WL.on 77 rfl rfl hb53 ?_
              refine WL.pure (v := (.int .i64 r31)) (PO.move rfl) rfl ?_
              refine WL.on 77 rfl rfl hb53 ?_
              refine WL.pure (v := (.int .i64 r40)) (PO.move rfl) rfl ?_
              refine WL.on 77 rfl rfl hb53 ?_
              refine WL.pure (v := (.bool (decide (r31 = r40)))) (PO.eql rfl rfl) rfl ?_
              refine WL.pure (v := (.bool (decide (r31 = r40)))) (PO.pickT rfl hb53 rfl) rfl ?_
              refine WL.pure (v := (.bool (decide (r31 = r40)))) (PO.move rfl) rfl ?_
              rcases Bool.eq_false_or_eq_true (decide (r31 = r40)) with hb54 | hb54
              · have h := ite_t hb54 h
                refine WL.on 82 rfl rfl hb54 ?_
                refine WL.pure (v := (.bool r32)) (PO.move rfl) rfl ?_
                refine WL.on 82 rfl rfl hb54 ?_
                refine WL.pure (v := (.bool r41)) (PO.move rfl) rfl ?_
                refine WL.on 82 rfl rfl hb54 ?_
                refine WL.pure (v := (.bool (r32 == r41))) (PO.beql Try.underlying4 rfl rfl) rfl ?_
                refine WL.pure (v := (.bool (r32 == r41))) (PO.pickT rfl hb54 rfl) rfl ?_
                refine WL.pure (v := (.bool (r32 == r41))) (PO.move rfl) rfl ?_
                rcases Bool.eq_false_or_eq_true (r32 == r41) with hb55 | hb55
                · have h := ite_t hb55 h
                  refine WL.on 87 rfl rfl hb55 ?_
                  refine WL.pure (v := v0) (PO.move (hρ 0)) rfl ?_
                  refine WL.on 87 rfl rfl hb55 ?_
                  refine WL.pure (v := (.int .i64 a1)) (PO.move (hρ 1)) rfl ?_
                  refine WL.on 87 rfl rfl hb55 ?_
                  refine WL.pure (v := (.int .i64 a2)) (PO.move (hρ 2)) rfl ?_
                  refine WL.on 87 rfl rfl hb55 ?_
                  refine WL.pure (v := (.int .i64 a3)) (PO.move (hρ 3)) rfl ?_
                  refine WL.on 87 rfl rfl hb55 ?_
                  obtain ⟨r56, hr57, h⟩ := bnd h
                  refine WL.eff (EO.call0 co26 (args4 (show ev _ _ = v0 from rfl) (show ev _ _ = (.int .i64 a1) from rfl) (show ev _ _ = (.int .i64 a2) from rfl) (show ev _ _ = (.int .i64 a3) from rfl)) (f_spans_Keep_ok a0 a1 a2 a3 _ _ h0 r56 hr57)) rfl ?_
                  rintro _ M58 _ hle59 ⟨_, ⟨rfl, rfl⟩, rfl⟩
                  have h0 := h0.mono hle59
                  refine WL.a0 ?_
                  refine WL.on 87 rfl rfl hb55 ?_
                  refine WL.pure (v := v0) (PO.move (hρ 0)) rfl ?_
                  refine WL.on 87 rfl rfl hb55 ?_
                  refine WL.pure (v := (.int .i64 a1)) (PO.move (hρ 1)) rfl ?_
                  refine WL.on 87 rfl rfl hb55 ?_
                  refine WL.pure (v := (.int .i64 a2)) (PO.move (hρ 2)) rfl ?_
                  refine WL.on 87 rfl rfl hb55 ?_
                  refine WL.pure (v := (.int .i64 a3)) (PO.move (hρ 3)) rfl ?_
                  refine WL.on 87 rfl rfl hb55 ?_
                  obtain ⟨r61, hr62, h⟩ := bnd h
                  refine WL.eff (EO.call0 co27 (args4 (show ev _ _ = v0 from rfl) (show ev _ _ = (.int .i64 a1) from rfl) (show ev _ _ = (.int .i64 a2) from rfl) (show ev _ _ = (.int .i64 a3) from rfl)) (f_ref13_Keep_ok a0 a1 a2 a3 _ _ h0 r61 hr62)) rfl ?_
                  rintro _ M63 _ hle64 ⟨_, ⟨rfl, rfl⟩, rfl⟩
                  have h0 := h0.mono hle64
                  refine WL.a0 ?_
                  refine WL.on 87 rfl rfl hb55 ?_
                  refine WL.pure (v := (.bool (decide (r56 = r61)))) (PO.eql rfl rfl) rfl ?_
                  refine WL.pure (v := (.bool (decide (r56 = r61)))) (PO.pickT rfl hb55 rfl) rfl ?_
                  refine WL.pure (v := (.bool (decide (r56 = r61)))) (PO.move rfl) rfl ?_
                  rcases Bool.eq_false_or_eq_true (decide (r56 = r61)) with hb66 | hb66
                  · have h := ite_t hb66 h
                    refine WL.on 100 rfl rfl hb66 ?_
                    obtain ⟨r67, hr68, h⟩ := bnd h
                    refine WL.eff (EO.call0 co21 (args0) (f_law13_works_ok _ r67 hr68)) rfl ?_
                    rintro _ M69 _ hle70 ⟨_, ⟨rfl, rfl⟩, rfl⟩
                    have h0 := h0.mono hle70
                    refine WL.a0 ?_
                    refine WL.pure (v := (.bool r67)) (PO.pickT rfl hb66 rfl) rfl ?_
                    refine WL.pure (v := (.bool r67)) (PO.assign rfl) rfl ?_
                    refine WL.nil ?_
                    obtain rfl := Option.some.inj h
                    refine WQ.thenJ ?_
                    exact ⟨((hle59.trans hle64).trans hle70), rfl, rfl⟩
                  · have h := ite_f hb66 h
                    refine WL.off 100 rfl rfl hb66 rfl ?_
                    refine WL.pure (v := (.bool false)) (PO.pickF rfl hb66 rfl) rfl ?_
                    refine WL.pure (v := (.bool false)) (PO.assign rfl) rfl ?_
                    refine WL.nil ?_
                    obtain rfl := Option.some.inj h
                    refine WQ.thenJ ?_
                    exact ⟨(hle59.trans hle64), rfl, rfl⟩
                · have h := ite_f hb55 h
                  refine WL.off 87 rfl rfl hb55 rfl ?_
                  refine WL.off 87 rfl rfl hb55 rfl ?_
                  refine WL.off 87 rfl rfl hb55 rfl ?_
                  refine WL.off 87 rfl rfl hb55 rfl ?_
                  refine WL.off 87 rfl rfl hb55 rfl ?_
                  refine WL.off 87 rfl rfl hb55 rfl ?_
                  refine WL.off 87 rfl rfl hb55 rfl ?_
                  refine WL.off 87 rfl rfl hb55 rfl ?_
                  refine WL.off 87 rfl rfl hb55 rfl ?_
                  refine WL.off 87 rfl rfl hb55 rfl ?_
                  refine WL.off 87 rfl rfl hb55 rfl ?_
                  refine WL.pure (v := (.bool false)) (PO.pickF rfl hb55 rfl) rfl ?_
                  refine WL.pure (v := (.bool false)) (PO.move rfl) rfl ?_
                  refine WL.off 100 rfl rfl rfl rfl ?_
                  refine WL.pure (v := (.bool false)) (PO.pickF rfl rfl rfl) rfl ?_
                  refine WL.pure (v := (.bool false)) (PO.assign rfl) rfl ?_
                  refine WL.nil ?_
                  obtain rfl := Option.some.inj h
                  refine WQ.thenJ ?_
                  exact ⟨(IM.le.refl _), rfl, rfl⟩
              · have h := ite_f hb54 h
                refine WL.off 82 rfl rfl hb54 rfl ?_
                refine WL.off 82 rfl rfl hb54 rfl ?_
                refine WL.off 82 rfl rfl hb54 rfl ?_
                refine WL.pure (v := (.bool false)) (PO.pickF rfl hb54 rfl) rfl ?_
                refine WL.pure (v := (.bool false)) (PO.move rfl) rfl ?_
                refine WL.off 87 rfl rfl rfl rfl ?_
                refine WL.off 87 rfl rfl rfl rfl ?_
                refine WL.off 87 rfl rfl rfl rfl ?_
                refine WL.off 87 rfl rfl rfl rfl ?_
                refine WL.off 87 rfl rfl rfl rfl ?_
                refine WL.off 87 rfl rfl rfl rfl ?_
                refine WL.off 87 rfl rfl rfl rfl ?_
                refine WL.off 87 rfl rfl rfl rfl ?_
                refine WL.off 87 rfl rfl rfl rfl ?_
                refine WL.off 87 rfl rfl rfl rfl ?_
                refine WL.off 87 rfl rfl rfl rfl ?_
                refine WL.pure (v := (.bool false)) (PO.pickF rfl rfl rfl) rfl ?_
                refine WL.pure (v := (.bool false)) (PO.move rfl) rfl ?_
                refine WL.off 100 rfl rfl rfl rfl ?_
                refine WL.pure (v := (.bool false)) (PO.pickF rfl rfl rfl) rfl ?_
                refine WL.pure (v := (.bool false)) (PO.assign rfl) rfl ?_
                refine WL.nil ?_
                obtain rfl := Option.some.inj h
                refine WQ.thenJ ?_
                exact ⟨(IM.le.refl _), rfl, rfl⟩
            · have h := ite_f hb53 h
              refine WL.off 77 rfl rfl hb53 rfl ?_
              refine WL.off 77 rfl rfl hb53 rfl ?_
              refine WL.off 77 rfl rfl hb53 rfl ?_
              refine WL.pure (v := (.bool false)) (PO.pickF rfl hb53 rfl) rfl ?_
              refine WL.pure (v := (.bool false)) (PO.move rfl) rfl ?_
              refine WL.off 82 rfl rfl rfl rfl ?_
              refine WL.off 82 rfl rfl rfl rfl ?_
              refine WL.off 82 rfl rfl rfl rfl ?_
              refine WL.pure (v := (.bool false)) (PO.pickF rfl rfl rfl) rfl ?_
              refine WL.pure (v := (.bool false)) (PO.move rfl) rfl ?_
              refine WL.off 87 rfl rfl rfl rfl ?_
              refine WL.off 87 rfl rfl rfl rfl ?_
              refine WL.off 87 rfl rfl rfl rfl ?_
              refine WL.off 87 rfl rfl rfl rfl ?_
              refine WL.off 87 rfl rfl rfl rfl ?_
              refine WL.off 87 rfl rfl rfl rfl ?_
              refine WL.off 87 rfl rfl rfl rfl ?_
              refine WL.off 87 rfl rfl rfl rfl ?_
              refine WL.off 87 rfl rfl rfl rfl ?_
              refine WL.off 87 rfl rfl rfl rfl ?_
              refine WL.off 87 rfl rfl rfl rfl ?_
              refine WL.pure (v := (.bool false)) (PO.pickF rfl rfl rfl) rfl ?_
              refine WL.pure (v := (.bool false)) (PO.move rfl) rfl ?_
              refine WL.off 100 rfl rfl rfl rfl ?_
              refine WL.pure (v := (.bool false)) (PO.pickF rfl rfl rfl) rfl ?_
              refine WL.pure (v := (.bool false)) (PO.assign rfl) rfl ?_
              refine WL.nil ?_
              obtain rfl := Option.some.inj h
              refine WQ.thenJ ?_
              exact ⟨(IM.le.refl _), rfl, rfl⟩
          · have h := ite_f hb52 h
            refine WL.off 72 rfl rfl hb52 rfl ?_
            refine WL.off 72 rfl rfl hb52 rfl ?_
            refine WL.off 72 rfl rfl hb52 rfl ?_
            refine WL.pure (v := (.bool false)) (PO.pickF rfl hb52 rfl) rfl ?_
            refine WL.pure (v := (.bool false)) (PO.move rfl) rfl ?_
            refine WL.off 77 rfl rfl rfl rfl ?_
            refine WL.off 77 rfl rfl rfl rfl ?_
            refine WL.off 77 rfl rfl rfl rfl ?_
            refine WL.pure (v := (.bool false)) (PO.pickF rfl rfl rfl) rfl ?_
            refine WL.pure (v := (.bool false)) (PO.move rfl) rfl ?_
            refine WL.off 82 rfl rfl rfl rfl ?_
            refine WL.off 82 rfl rfl rfl rfl ?_
            refine WL.off 82 rfl rfl rfl rfl ?_
            refine WL.pure (v := (.bool false)) (PO.pickF rfl rfl rfl) rfl ?_
            refine WL.pure (v := (.bool false)) (PO.move rfl) rfl ?_
            refine WL.off 87 rfl rfl rfl rfl ?_
            refine WL.off 87 rfl rfl rfl rfl ?_
            refine WL.off 87 rfl rfl rfl rfl ?_
            refine WL.off 87 rfl rfl rfl rfl ?_
            refine WL.off 87 rfl rfl rfl rfl ?_
            refine WL.off 87 rfl rfl rfl rfl ?_
            refine WL.off 87 rfl rfl rfl rfl ?_
            refine WL.off 87 rfl rfl rfl rfl ?_
            refine WL.off 87 rfl rfl rfl rfl ?_
            refine WL.off 87 rfl rfl rfl rfl ?_
            refine WL.off 87 rfl rfl rfl rfl ?_
            refine WL.pure (v := (.bool false)) (PO.pickF rfl rfl rfl) rfl ?_
            refine WL.pure (v := (.bool false)) (PO.move rfl) rfl ?_
            refine WL.off 100 rfl rfl rfl rfl ?_
            refine WL.pure (v := (.bool false)) (PO.pickF rfl rfl rfl) rfl ?_
            refine WL.pure (v := (.bool false)) (PO.assign rfl) rfl ?_
            refine WL.nil ?_
            obtain rfl := Option.some.inj h
            refine WQ.thenJ ?_
            exact ⟨(IM.le.refl _), rfl, rfl⟩
        · have h := ite_f hb51 h
          refine WL.off 67 rfl rfl hb51 rfl ?_
          refine WL.off 67 rfl rfl hb51 rfl ?_
          refine WL.off 67 rfl rfl hb51 rfl ?_
          refine WL.pure (v := (.bool false)) (PO.pickF rfl hb51 rfl) rfl ?_
          refine WL.pure (v := (.bool false)) (PO.move rfl) rfl ?_
          refine WL.off 72 rfl rfl rfl rfl ?_
          refine WL.off 72 rfl rfl rfl rfl ?_
          refine WL.off 72 rfl rfl rfl rfl ?_
          refine WL.pure (v := (.bool false)) (PO.pickF rfl rfl rfl) rfl ?_
          refine WL.pure (v := (.bool false)) (PO.move rfl) rfl ?_
          refine WL.off 77 rfl rfl rfl rfl ?_
          refine WL.off 77 rfl rfl rfl rfl ?_
          refine WL.off 77 rfl rfl rfl rfl ?_
          refine WL.pure (v := (.bool false)) (PO.pickF rfl rfl rfl) rfl ?_
          refine WL.pure (v := (.bool false)) (PO.move rfl) rfl ?_
          refine WL.off 82 rfl rfl rfl rfl ?_
          refine WL.off 82 rfl rfl rfl rfl ?_
          refine WL.off 82 rfl rfl rfl rfl ?_
          refine WL.pure (v := (.bool false)) (PO.pickF rfl rfl rfl) rfl ?_
          refine WL.pure (v := (.bool false)) (PO.move rfl) rfl ?_
          refine WL.off 87 rfl rfl rfl rfl ?_
          refine WL.off 87 rfl rfl rfl rfl ?_
          refine WL.off 87 rfl rfl rfl rfl ?_
          refine WL.off 87 rfl rfl rfl rfl ?_
          refine WL.off 87 rfl rfl rfl rfl ?_
          refine WL.off 87 rfl rfl rfl rfl ?_
          refine WL.off 87 rfl rfl rfl rfl ?_
          refine WL.off 87 rfl rfl rfl rfl ?_
          refine WL.off 87 rfl rfl rfl rfl ?_
          refine WL.off 87 rfl rfl rfl rfl ?_
          refine WL.off 87 rfl rfl rfl rfl ?_
          refine WL.pure (v := (.bool false)) (PO.pickF rfl rfl rfl) rfl ?_
          refine WL.pure (v := (.bool false)) (PO.move rfl) rfl ?_
          refine WL.off 100 rfl rfl rfl rfl ?_
          refine WL.pure (v := (.bool false)) (PO.pickF rfl rfl rfl) rfl ?_
          refine WL.pure (v := (.bool false)) (PO.assign rfl) rfl ?_
          refine WL.nil ?_
          obtain rfl := Option.some.inj h
          refine WQ.thenJ ?_
          exact ⟨(IM.le.refl _), rfl, rfl⟩
      · have h := ite_f hb50 h
        refine WL.off 62 rfl rfl hb50 rfl ?_
        refine WL.off 62 rfl rfl hb50 rfl ?_
        refine WL.off 62 rfl rfl hb50 rfl ?_
        refine WL.pure (v := (.bool false)) (PO.pickF rfl hb50 rfl) rfl ?_
        refine WL.pure (v := (.bool false)) (PO.move rfl) rfl ?_
        refine WL.off 67 rfl rfl rfl rfl ?_
        refine WL.off 67 rfl rfl rfl rfl ?_
        refine WL.off 67 rfl rfl rfl rfl ?_
        refine WL.pure (v := (.bool false)) (PO.pickF rfl rfl rfl) rfl ?_
        refine WL.pure (v := (.bool false)) (PO.move rfl) rfl ?_
        refine WL.off 72 rfl rfl rfl rfl ?_
        refine WL.off 72 rfl rfl rfl rfl ?_
        refine WL.off 72 rfl rfl rfl rfl ?_
        refine WL.pure (v := (.bool false)) (PO.pickF rfl rfl rfl) rfl ?_
        refine WL.pure (v := (.bool false)) (PO.move rfl) rfl ?_
        refine WL.off 77 rfl rfl rfl rfl ?_
        refine WL.off 77 rfl rfl rfl rfl ?_
        refine WL.off 77 rfl rfl rfl rfl ?_
        refine WL.pure (v := (.bool false)) (PO.pickF rfl rfl rfl) rfl ?_
        refine WL.pure (v := (.bool false)) (PO.move rfl) rfl ?_
        refine WL.off 82 rfl rfl rfl rfl ?_
        refine WL.off 82 rfl rfl rfl rfl ?_
        refine WL.off 82 rfl rfl rfl rfl ?_
        refine WL.pure (v := (.bool false)) (PO.pickF rfl rfl rfl) rfl ?_
        refine WL.pure (v := (.bool false)) (PO.move rfl) rfl ?_
        refine WL.off 87 rfl rfl rfl rfl ?_
        refine WL.off 87 rfl rfl rfl rfl ?_
        refine WL.off 87 rfl rfl rfl rfl ?_
        refine WL.off 87 rfl rfl rfl rfl ?_
        refine WL.off 87 rfl rfl rfl rfl ?_
        refine WL.off 87 rfl rfl rfl rfl ?_
        refine WL.off 87 rfl rfl rfl rfl ?_
        refine WL.off 87 rfl rfl rfl rfl ?_
        refine WL.off 87 rfl rfl rfl rfl ?_
        refine WL.off 87 rfl rfl rfl rfl ?_
        refine WL.off 87 rfl rfl rfl rfl ?_
        refine WL.pure (v := (.bool false)) (PO.pickF rfl rfl rfl) rfl ?_
        refine WL.pure (v := (.bool false)) (PO.move rfl) rfl ?_
        refine WL.off 100 rfl rfl rfl rfl ?_
        refine WL.pure (v := (.bool false)) (PO.pickF rfl rfl rfl) rfl ?_
        refine WL.pure (v := (.bool false)) (PO.assign rfl) rfl ?_
        refine WL.nil ?_
        obtain rfl := Option.some.inj h
        refine WQ.thenJ ?_
        exact ⟨(IM.le.refl _), rfl, rfl⟩
    · rintro ρ49 M49 H49 ⟨hle49, rfl, hs49_8⟩
      refine WC.ret ?_
      exact WQ.returnsF h [] rfl (results1 rfl hs49_8) (((((hle4.trans hle17).trans hle26).trans hle35).trans hle44).trans hle49) ⟨rfl, rfl⟩


end Go.Proofs.Ytmifmgpfjamdkaa.G
