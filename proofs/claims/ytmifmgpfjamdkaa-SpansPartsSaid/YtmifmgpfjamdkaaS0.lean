/- Go functions: what they come to, and that they do. Printed by a program of the session (gen). -/
import Derived.Test.YtmifmgpfjamdkaaSF
set_option linter.unusedVariables false
set_option linter.unusedSimpArgs false
namespace Go.Proofs.Ytmifmgpfjamdkaa.G
open Go Go.KK

noncomputable def f_ref13_Check_l0 (a0 : (List T_api_Span)) (s_ : Int) : Option (Int ⊕ (Unit ⊕ (Int × Int))) :=
  match s_ with
  | x3 =>
    (if (decide (x3 < (a0.length : Int))) = true then (((grd (0 ≤ x3 ∧ x3 < a0.length) (if (decide (((rd a0 x3).Term) < (0 : Int))) = true then (some true) else (grd (0 ≤ x3 ∧ x3 < a0.length) (if (decide ((1073741824 : Int) < ((rd a0 x3).Term))) = true then (some true) else (grd (0 ≤ x3 ∧ x3 < a0.length) (if (decide (((rd a0 x3).Start) < (0 : Int))) = true then (some true) else (grd (0 ≤ x3 ∧ x3 < a0.length) (some (decide ((1073741824 : Int) < ((rd a0 x3).Start))))))))))) : Option Bool).bind fun (x7 : Bool) => (if x7 = true then (some (Sum.inr (Sum.inr ((2 : Int), x3)))) else (((if (decide ((0 : Int) < x3)) = true then (grd (0 ≤ x3 ∧ x3 < a0.length) (grd (0 ≤ IntKind.i64.wrap (x3 - (1 : Int)) ∧ IntKind.i64.wrap (x3 - (1 : Int)) < a0.length) (if (decide (((rd a0 x3).Term) ≤ ((rd a0 (IntKind.i64.wrap (x3 - (1 : Int)))).Term))) = true then (some true) else (grd (0 ≤ x3 ∧ x3 < a0.length) (grd (0 ≤ IntKind.i64.wrap (x3 - (1 : Int)) ∧ IntKind.i64.wrap (x3 - (1 : Int)) < a0.length) (some (decide (((rd a0 x3).Start) ≤ ((rd a0 (IntKind.i64.wrap (x3 - (1 : Int)))).Start))))))))) else (some false)) : Option Bool).bind fun (x41 : Bool) => (if x41 = true then (some (Sum.inr (Sum.inr ((10 : Int), x3)))) else (some (Sum.inl (IntKind.i64.wrap (x3 + (1 : Int))))))))) else (some (Sum.inr (Sum.inl ()))))
noncomputable def f_ref13_Check (a0 : (List T_api_Span)) : Option (Int × Int) :=
  ((((iter (f_ref13_Check_l0 a0) (0 : Int)).bind (Sum.elim (fun _ => (some (Sum.inl ()))) (fun (x4, x5) => (((some (x4, x5))).bind fun r => some (Sum.inr r))))) : Option (Unit ⊕ (Int × Int))).bind (Sum.elim (fun _ => (some ((0 : Int), (0 : Int)))) some))
def f_ref13_Check_post (a0 : (List T_api_Span)) (v0 : Value) : (Int × Int) → Value → IM → HL → Prop :=
  fun (p_ : (Int × Int)) (v : Value) (M' : IM) (H' : HL) => match p_ with | (r0, r1) => (.tuple #[(.int .i64 r0), (.int .i64 r1)]) = v ∧ H' = []
set_option maxHeartbeats 1000000 in
set_option maxRecDepth 100000 in
theorem f_ref13_Check_ok (a0 : (List T_api_Span)) (M : IM) (v0 : Value) (h0 : RS kd_api_Span M v0 a0) (res : (Int × Int)) (h : f_ref13_Check a0 = some res) :
    Tri Try.prog 33 #[v0] M [] (f_ref13_Check_post a0 v0 res) := by
  unfold f_ref13_Check at h
  refine Tri.enter (fn := Try.f33) Try.func33 rfl (Nat.le_of_ble_eq_true rfl) ?_
  intro F ρ hρ
  refine WC.seq ?_
  refine WC.region ?_
  refine WL.pure (v := (.int .i64 (0 : Int))) (PO.assign rfl) rfl ?_
  refine WL.pure (v := (.int .i64 (0 : Int))) (PO.assign rfl) rfl ?_
  refine WL.nil ?_
  refine WQ.thenC ?_
  refine WC.seq ?_
  refine WC.region ?_
  refine WL.pure (v := (.int .i64 (1073741824 : Int))) (PO.assign rfl) rfl ?_
  refine WL.nil ?_
  refine WQ.thenC ?_
  obtain ⟨j1, hj1, h⟩ := bnd h
  refine WC.joinE (fun (_ : Unit) (ρ' : Nat → Value) (M' : IM) (H' : HL) => M.le M' ∧ F = H') j1 ?_ ?_
  · have h31 := h
    have h := hj1
    refine WC.seq ?_
    refine WC.region ?_
    refine WL.pure (v := (.int .i64 (0 : Int))) (PO.assign rfl) rfl ?_
    refine WL.nil ?_
    refine WQ.thenC ?_
    refine WC.block ?_
    obtain ⟨e2, he2, hK2⟩ := bnd h
    clear h
    refine WC.loop he2 (fun (x3 : Int) (ρ' : Nat → Value) (M' : IM) (H' : HL) => M.le M' ∧ F = H' ∧ ρ' 0 = v0 ∧ ρ' 4 = (.int .i64 (1073741824 : Int)) ∧ ρ' 5 = (.int .i64 x3)) ?_ ?_
    · exact ⟨(IM.le.refl _), rfl, (hρ 0), rfl, rfl⟩
    · rintro x3 o2 ρ2 M2 H2 h ⟨hle2, rfl, hs2_0, hs2_4, hs2_5⟩
      unfold f_ref13_Check_l0 at h
      have h0 := h0.mono hle2
      refine WC.seq ?_
      refine WC.seq ?_
      refine WC.region ?_
      refine WL.pure (v := (.int .i64 x3)) (PO.move hs2_5) rfl ?_
      refine WL.pure (v := v0) (PO.move hs2_0) rfl ?_
      refine WL.pure (v := (.int .i64 (a0.length : Int))) (PO.lenS Try.underlying35 rfl h0.len) rfl ?_
      refine WL.pure (v := (.bool (decide (x3 < (a0.length : Int))))) (PO.lss rfl rfl) rfl ?_
      refine WL.nil ?_
      refine WQ.thenC ?_
      refine WC.cond (b := decide (x3 < (a0.length : Int))) rfl (fun hb6 => ?_) (fun hb6 => ?_)
      · have h := ite_t hb6 h
        refine WC.skip ?_
        refine WQ.thenC ?_
        refine WC.seq ?_
        refine WC.block ?_
        refine WC.seq ?_
        obtain ⟨x7, hj8, h⟩ := bnd h
        refine WC.joinF (fun (x7 : Bool) (ρ' : Nat → Value) (M' : IM) (H' : HL) => M2.le M' ∧ F = H' ∧ ρ' 0 = v0 ∧ ρ' 4 = (.int .i64 (1073741824 : Int)) ∧ ρ' 5 = (.int .i64 x3) ∧ ρ' 43 = (.bool x7)) x7 ?_ ?_
        · have h38 := h
          have h := hj8
          refine WC.region ?_
          refine WL.pure (v := v0) (PO.move hs2_0) rfl ?_
          refine WL.pure (v := (.int .i64 x3)) (PO.move hs2_5) rfl ?_
          obtain ⟨hg9, h⟩ := grd_i h
          obtain ⟨p10, cs11, hat12, hrc13, hhas14⟩ := h0.at hg9.1 hg9.2 (by decide)
          obtain rfl := kd_api_Span_open hrc13
          refine WL.pure (v := (.pointer (some p10))) (PO.indexAddr (n := a0.length) Try.underlying35 sz50 rfl rfl hg9.1 hg9.2 hat12) rfl ?_
          refine WL.pure (v := (.pointer (some (p10.add 0)))) (PO.fieldAddr fo50_0 rfl rfl) rfl ?_
          refine WL.pure (v := (.int .i64 ((rd a0 x3).Term))) (PO.loadM pl3 rfl (IM.has0 hhas14)) rfl ?_
          refine WL.pure (v := (.bool (decide (((rd a0 x3).Term) < (0 : Int))))) (PO.lss rfl rfl) rfl ?_
          refine WL.pure (v := (.bool (decide (((rd a0 x3).Term) < (0 : Int))))) (PO.move rfl) rfl ?_
          rcases Bool.eq_false_or_eq_true (decide (((rd a0 x3).Term) < (0 : Int))) with hb16 | hb16
          · have h := ite_t hb16 h
            refine WL.off 18 rfl rfl hb16 rfl ?_
            refine WL.off 18 rfl rfl hb16 rfl ?_
            refine WL.off 18 rfl rfl hb16 rfl ?_
            refine WL.off 18 rfl rfl hb16 rfl ?_
            refine WL.off 18 rfl rfl hb16 rfl ?_
            refine WL.off 18 rfl rfl hb16 rfl ?_
            refine WL.off 18 rfl rfl hb16 rfl ?_
            refine WL.pure (v := (.bool true)) (PO.pickT rfl hb16 rfl) rfl ?_
            refine WL.pure (v := (.bool true)) (PO.move rfl) rfl ?_
            refine WL.off 27 rfl rfl rfl rfl ?_
            refine WL.off 27 rfl rfl rfl rfl ?_
            refine WL.off 27 rfl rfl rfl rfl ?_
            refine WL.off 27 rfl rfl rfl rfl ?_
            refine WL.off 27 rfl rfl rfl rfl ?_
            refine WL.off 27 rfl rfl rfl rfl ?_
            refine WL.pure (v := (.bool true)) (PO.pickT rfl rfl rfl) rfl ?_
            refine WL.pure (v := (.bool true)) (PO.move rfl) rfl ?_
            refine WL.off 35 rfl rfl rfl rfl ?_
            refine WL.off 35 rfl rfl rfl rfl ?_
            refine WL.off 35 rfl rfl rfl rfl ?_
            refine WL.off 35 rfl rfl rfl rfl ?_
            refine WL.off 35 rfl rfl rfl rfl ?_
            refine WL.off 35 rfl rfl rfl rfl ?_
            refine WL.off 35 rfl rfl rfl rfl ?_
            refine WL.pure (v := (.bool true)) (PO.pickT rfl rfl rfl) rfl ?_
            refine WL.nil ?_
            obtain rfl := Option.some.inj h
            refine WQ.thenJ ?_
            exact ⟨(IM.le.refl _), rfl, hs2_0, hs2_4, hs2_5, rfl⟩
          · have h := ite_f hb16 h
            refine WL.on 18 rfl rfl hb16 ?_
            refine WL.pure (v := v0) (PO.move hs2_0) rfl ?_
            refine WL.on 18 rfl rfl hb16 ?_
            refine WL.pure (v := (.int .i64 x3)) (PO.move hs2_5) rfl ?_
            refine WL.on 18 rfl rfl hb16 ?_
            obtain ⟨hg17, h⟩ := grd_i h
            obtain ⟨p18, cs19, hat20, hrc21, hhas22⟩ := h0.at hg17.1 hg17.2 (by decide)
            obtain rfl := kd_api_Span_open hrc21
            refine WL.pure (v := (.pointer (some p18))) (PO.indexAddr (n := a0.length) Try.underlying35 sz50 rfl rfl hg17.1 hg17.2 hat20) rfl ?_
            refine WL.on 18 rfl rfl hb16 ?_
            refine WL.pure (v := (.pointer (some (p18.add 0)))) (PO.fieldAddr fo50_0 rfl rfl) rfl ?_
            refine WL.on 18 rfl rfl hb16 ?_
            refine WL.pure (v := (.int .i64 ((rd a0 x3).Term))) (PO.loadM pl3 rfl (IM.has0 hhas22)) rfl ?_
            refine WL.on 18 rfl rfl hb16 ?_
            refine WL.pure (v := (.int .i64 (1073741824 : Int))) (PO.move hs2_4) rfl ?_
            refine WL.on 18 rfl rfl hb16 ?_
            refine WL.pure (v := (.bool (decide ((1073741824 : Int) < ((rd a0 x3).Term))))) (PO.gtr rfl rfl) rfl ?_
            refine WL.pure (v := (.bool (decide ((1073741824 : Int) < ((rd a0 x3).Term))))) (PO.pickF rfl hb16 rfl) rfl ?_
            refine WL.pure (v := (.bool (decide ((1073741824 : Int) < ((rd a0 x3).Term))))) (PO.move rfl) rfl ?_
            rcases Bool.eq_false_or_eq_true (decide ((1073741824 : Int) < ((rd a0 x3).Term))) with hb24 | hb24
            · have h := ite_t hb24 h
              refine WL.off 27 rfl rfl hb24 rfl ?_
              refine WL.off 27 rfl rfl hb24 rfl ?_
              refine WL.off 27 rfl rfl hb24 rfl ?_
              refine WL.off 27 rfl rfl hb24 rfl ?_
              refine WL.off 27 rfl rfl hb24 rfl ?_
              refine WL.off 27 rfl rfl hb24 rfl ?_
              refine WL.pure (v := (.bool true)) (PO.pickT rfl hb24 rfl) rfl ?_
              refine WL.pure (v := (.bool true)) (PO.move rfl) rfl ?_
              refine WL.off 35 rfl rfl rfl rfl ?_
              refine WL.off 35 rfl rfl rfl rfl ?_
              refine WL.off 35 rfl rfl rfl rfl ?_
              refine WL.off 35 rfl rfl rfl rfl ?_
              refine WL.off 35 rfl rfl rfl rfl ?_
              refine WL.off 35 rfl rfl rfl rfl ?_
              refine WL.off 35 rfl rfl rfl rfl ?_
              refine WL.pure (v := (.bool true)) (PO.pickT rfl rfl rfl) rfl ?_
              refine WL.nil ?_
              obtain rfl := Option.some.inj h
              refine WQ.thenJ ?_
              exact ⟨(IM.le.refl _), rfl, hs2_0, hs2_4, hs2_5, rfl⟩
            · have h := ite_f hb24 h
              refine WL.on 27 rfl rfl hb24 ?_
              refine WL.pure (v := v0) (PO.move hs2_0) rfl ?_
              refine WL.on 27 rfl rfl hb24 ?_
              refine WL.pure (v := (.int .i64 x3)) (PO.move hs2_5) rfl ?_
              refine WL.on 27 rfl rfl hb24 ?_
              obtain ⟨hg25, h⟩ := grd_i h
              obtain ⟨p26, cs27, hat28, hrc29, hhas30⟩ := h0.at hg25.1 hg25.2 (by decide)
              obtain rfl := kd_api_Span_open hrc29
              refine WL.pure (v := (.pointer (some p26))) (PO.indexAddr (n := a0.length) Try.underlying35 sz50 rfl rfl hg25.1 hg25.2 hat28) rfl ?_
              refine WL.on 27 rfl rfl hb24 ?_
              refine WL.pure (v := (.pointer (some (p26.add 1)))) (PO.fieldAddr fo50_1 rfl rfl) rfl ?_
              refine WL.on 27 rfl rfl hb24 ?_
              refine WL.pure (v := (.int .i64 ((rd a0 x3).Start))) (PO.loadM pl3 rfl (hhas30 1 _ rfl)) rfl ?_
              refine WL.on 27 rfl rfl hb24 ?_
              refine WL.pure (v := (.bool (decide (((rd a0 x3).Start) < (0 : Int))))) (PO.lss rfl rfl) rfl ?_
              refine WL.pure (v := (.bool (decide (((rd a0 x3).Start) < (0 : Int))))) (PO.pickF rfl hb24 rfl) rfl ?_
              refine WL.pure (v := (.bool (decide (((rd a0 x3).Start) < (0 : Int))))) (PO.move rfl) rfl ?_
              rcases Bool.eq_false_or_eq_true (decide (((rd a0 x3).Start) < (0 : Int))) with hb32 | hb32
              · have h := ite_t hb32 h
                refine WL.off 35 rfl rfl hb32 rfl ?_
                refine WL.off 35 rfl rfl hb32 rfl ?_
                refine WL.off 35 rfl rfl hb32 rfl ?_
                refine WL.off 35 rfl rfl hb32 rfl ?_
                refine WL.off 35 rfl rfl hb32 rfl ?_
                refine WL.off 35 rfl rfl hb32 rfl ?_
                refine WL.off 35 rfl rfl hb32 rfl ?_
                refine WL.pure (v := (.bool true)) (PO.pickT rfl hb32 rfl) rfl ?_
                refine WL.nil ?_
                obtain rfl := Option.some.inj h
                refine WQ.thenJ ?_
                exact ⟨(IM.le.refl _), rfl, hs2_0, hs2_4, hs2_5, rfl⟩
              · have h := ite_f hb32 h
                refine WL.on 35 rfl rfl hb32 ?_
                refine WL.pure (v := v0) (PO.move hs2_0) rfl ?_
                refine WL.on 35 rfl rfl hb32 ?_
                refine WL.pure (v := (.int .i64 x3)) (PO.move hs2_5) rfl ?_
                refine WL.on 35 rfl rfl hb32 ?_
                obtain ⟨hg33, h⟩ := grd_i h
                obtain ⟨p34, cs35, hat36, hrc37, hhas38⟩ := h0.at hg33.1 hg33.2 (by decide)
                obtain rfl := kd_api_Span_open hrc37
                refine WL.pure (v := (.pointer (some p34))) (PO.indexAddr (n := a0.length) Try.underlying35 sz50 rfl rfl hg33.1 hg33.2 hat36) rfl ?_
                refine WL.on 35 rfl rfl hb32 ?_
                refine WL.pure (v := (.pointer (some (p34.add 1)))) (PO.fieldAddr fo50_1 rfl rfl) rfl ?_
                refine WL.on 35 rfl rfl hb32 ?_
                refine WL.pure (v := (.int .i64 ((rd a0 x3).Start))) (PO.loadM pl3 rfl (hhas38 1 _ rfl)) rfl ?_
                refine WL.on 35 rfl rfl hb32 ?_
                refine WL.pure (v := (.int .i64 (1073741824 : Int))) (PO.move hs2_4) rfl ?_
                refine WL.on 35 rfl rfl hb32 ?_
                refine WL.pure (v := (.bool (decide ((1073741824 : Int) < ((rd a0 x3).Start))))) (PO.gtr rfl rfl) rfl ?_
                refine WL.pure (v := (.bool (decide ((1073741824 : Int) < ((rd a0 x3).Start))))) (PO.pickF rfl hb32 rfl) rfl ?_
                refine WL.nil ?_
                obtain rfl := Option.some.inj h
                refine WQ.thenJ ?_
                exact ⟨(IM.le.refl _), rfl, hs2_0, hs2_4, hs2_5, rfl⟩
        · rintro ρ8 M8 H8 ⟨hle8, rfl, hs8_0, hs8_4, hs8_5, hs8_43⟩
          have h0 := h0.mono hle8
          refine WC.cond (b := x7) hs8_43 (fun hb40 => ?_) (fun hb40 => ?_)
          · have h := ite_t hb40 h
            refine WC.seq ?_
            refine WC.region ?_
            refine WL.pure (v := (.int .i64 x3)) (PO.move hs8_5) rfl ?_
            refine WL.pure (v := (.int .i64 (2 : Int))) (PO.assign rfl) rfl ?_
            refine WL.pure (v := (.int .i64 x3)) (PO.assign rfl) rfl ?_
            refine WL.nil ?_
            refine WQ.thenC ?_
            refine WC.ret ?_
            refine WQ.thenR ?_
            refine WQ.blockR ?_
            refine WQ.thenR ?_
            refine WQ.leaveR (Sum.inr ((2 : Int), x3)) (Option.some.inj h).symm (fun heq2 => ?_)
            subst heq2
            have h := (elimR hK2)
            refine WQ.blockR ?_
            refine WQ.thenR ?_
            have h := KK.early h h31
            exact WQ.returnsF h [] rfl (results2 rfl rfl rfl) (hle2.trans hle8) ⟨rfl, rfl⟩
          · have h := ite_f hb40 h
            refine WC.skip ?_
            refine WQ.thenC ?_
            obtain ⟨x41, hj42, h⟩ := bnd h
            refine WC.joinF (fun (x41 : Bool) (ρ' : Nat → Value) (M' : IM) (H' : HL) => M8.le M' ∧ F = H' ∧ ρ' 0 = v0 ∧ ρ' 4 = (.int .i64 (1073741824 : Int)) ∧ ρ' 5 = (.int .i64 x3) ∧ ρ' 74 = (.bool x41)) x41 ?_ ?_
            · have h342 := h
              have h := hj42
              refine WC.draw [0, 1, 3, 7, 7, 31, 63, 127, 7, 7, 519, 1799, 3847, 7943, 16383, 32767, 65535, 65535, 262143, 524287, 1048575, 65535, 65535, 4259839, 14745599, 31522815, 65077247, 134217727, 268435455, 536870911] (.pure 0 (.pure 1 (.pure 2 (.pure 3 (.pure 4 (.pure 5 (.pure 6 (.pure 7 (.pure 8 (.pure 9 (.pure 10 (.pure 11 (.pure 12 (.pure 13 (.pure 14 (.pure 15 (.pure 16 (.pure 17 (.pure 18 (.pure 19 (.pure 20 (.pure 21 (.pure 22 (.pure 23 (.pure 24 (.pure 25 (.pure 26 (.pure 27 (.pure 28 (.pure 29 .done)))))))))))))))))))))))))))))) mixed (by kernel_rfl) ?_
              refine WT.pure (v := (.int .i64 x3)) rfl (PO.move hs8_5) rfl ?_
              refine WT.pure (v := (.bool (decide ((0 : Int) < x3)))) rfl (PO.gtr rfl rfl) rfl ?_
              refine WT.pure (v := (.bool (decide ((0 : Int) < x3)))) rfl (PO.move rfl) rfl ?_
              rcases Bool.eq_false_or_eq_true (decide ((0 : Int) < x3)) with hb43 | hb43
              · have h := ite_t hb43 h
                refine WT.pureOn (v := v0) 47 rfl rfl rfl hb43 (PO.move hs8_0) rfl ?_
                refine WT.pureOn (v := (.int .i64 x3)) 47 rfl rfl rfl hb43 (PO.move hs8_5) rfl ?_
                obtain ⟨hg44, h⟩ := grd_i h
                obtain ⟨p45, cs46, hat47, hrc48, hhas49⟩ := h0.at hg44.1 hg44.2 (by decide)
                obtain rfl := kd_api_Span_open hrc48
                refine WT.pureOn (v := (.pointer (some p45))) 47 rfl rfl rfl hb43 (PO.indexAddr (n := a0.length) Try.underlying35 sz50 rfl rfl hg44.1 hg44.2 hat47) rfl ?_
                refine WT.pureOn (v := (.pointer (some (p45.add 0)))) 47 rfl rfl rfl hb43 (PO.fieldAddr fo50_0 rfl rfl) rfl ?_
                refine WT.pureOn (v := (.int .i64 ((rd a0 x3).Term))) 47 rfl rfl rfl hb43 (PO.loadM pl3 rfl (IM.has0 hhas49)) rfl ?_
                refine WT.pureOn (v := v0) 47 rfl rfl rfl hb43 (PO.move hs8_0) rfl ?_
                refine WT.pureOn (v := (.int .i64 x3)) 47 rfl rfl rfl hb43 (PO.move hs8_5) rfl ?_
                refine WT.pureOn (v := (.int .i64 (IntKind.i64.wrap (x3 - (1 : Int))))) 47 rfl rfl rfl hb43 (PO.sub rfl rfl) rfl ?_
                obtain ⟨hg51, h⟩ := grd_i h
                obtain ⟨p52, cs53, hat54, hrc55, hhas56⟩ := h0.at hg51.1 hg51.2 (by decide)
                obtain rfl := kd_api_Span_open hrc55
                refine WT.pureOn (v := (.pointer (some p52))) 47 rfl rfl rfl hb43 (PO.indexAddr (n := a0.length) Try.underlying35 sz50 rfl rfl hg51.1 hg51.2 hat54) rfl ?_
                refine WT.pureOn (v := (.pointer (some (p52.add 0)))) 47 rfl rfl rfl hb43 (PO.fieldAddr fo50_0 rfl rfl) rfl ?_
                refine WT.pureOn (v := (.int .i64 ((rd a0 (IntKind.i64.wrap (x3 - (1 : Int)))).Term))) 47 rfl rfl rfl hb43 (PO.loadM pl3 rfl (IM.has0 hhas56)) rfl ?_
                refine WT.pureOn (v := (.bool (decide (((rd a0 x3).Term) ≤ ((rd a0 (IntKind.i64.wrap (x3 - (1 : Int)))).Term))))) 47 rfl rfl rfl hb43 (PO.leq rfl rfl) rfl ?_
                refine WT.pureOn (v := (.bool (decide (((rd a0 x3).Term) ≤ ((rd a0 (IntKind.i64.wrap (x3 - (1 : Int)))).Term))))) 47 rfl rfl rfl hb43 (PO.move rfl) rfl ?_
                rcases Bool.eq_false_or_eq_true (decide (((rd a0 x3).Term) ≤ ((rd a0 (IntKind.i64.wrap (x3 - (1 : Int)))).Term))) with hb58 | hb58
                · have h := ite_t hb58 h
                  refine WT.pureOff 60 rfl rfl rfl hb58 rfl ?_
                  refine WT.pureOff 60 rfl rfl rfl hb58 rfl ?_
                  refine WT.pureOff 60 rfl rfl rfl hb58 rfl ?_
                  refine WT.pureOff 60 rfl rfl rfl hb58 rfl ?_
                  refine WT.pureOff 60 rfl rfl rfl hb58 rfl ?_
                  refine WT.pureOff 60 rfl rfl rfl hb58 rfl ?_
                  refine WT.pureOff 60 rfl rfl rfl hb58 rfl ?_
                  refine WT.pureOff 60 rfl rfl rfl hb58 rfl ?_
                  refine WT.pureOff 60 rfl rfl rfl hb58 rfl ?_
                  refine WT.pureOff 60 rfl rfl rfl hb58 rfl ?_
                  refine WT.pureOff 60 rfl rfl rfl hb58 rfl ?_
                  refine WT.pureOff 60 rfl rfl rfl hb58 rfl ?_
                  refine WT.pureOn (v := (.bool true)) 47 rfl rfl rfl hb43 (PO.pickT rfl hb58 rfl) rfl ?_
                  refine WT.pure (v := (.bool true)) rfl (PO.pickT rfl hb43 rfl) rfl ?_
                  refine WT.fin ?_
                  obtain rfl := Option.some.inj h
                  refine WQ.thenJ ?_
                  exact ⟨(IM.le.refl _), rfl, hs8_0, hs8_4, hs8_5, rfl⟩
                · have h := ite_f hb58 h
                  refine WT.pureOn (v := v0) 60 rfl rfl rfl hb58 (PO.move hs8_0) rfl ?_
                  refine WT.pureOn (v := (.int .i64 x3)) 60 rfl rfl rfl hb58 (PO.move hs8_5) rfl ?_
                  obtain ⟨hg59, h⟩ := grd_i h
                  obtain ⟨p60, cs61, hat62, hrc63, hhas64⟩ := h0.at hg59.1 hg59.2 (by decide)
                  obtain rfl := kd_api_Span_open hrc63
                  refine WT.pureOn (v := (.pointer (some p60))) 60 rfl rfl rfl hb58 (PO.indexAddr (n := a0.length) Try.underlying35 sz50 rfl rfl hg59.1 hg59.2 hat62) rfl ?_
                  refine WT.pureOn (v := (.pointer (some (p60.add 1)))) 60 rfl rfl rfl hb58 (PO.fieldAddr fo50_1 rfl rfl) rfl ?_
                  refine WT.pureOn (v := (.int .i64 ((rd a0 x3).Start))) 60 rfl rfl rfl hb58 (PO.loadM pl3 rfl (hhas64 1 _ rfl)) rfl ?_
                  refine WT.pureOn (v := v0) 60 rfl rfl rfl hb58 (PO.move hs8_0) rfl ?_
                  refine WT.pureOn (v := (.int .i64 x3)) 60 rfl rfl rfl hb58 (PO.move hs8_5) rfl ?_
                  refine WT.pureOn (v := (.int .i64 (IntKind.i64.wrap (x3 - (1 : Int))))) 60 rfl rfl rfl hb58 (PO.sub rfl rfl) rfl ?_
                  obtain ⟨hg66, h⟩ := grd_i h
                  obtain ⟨p67, cs68, hat69, hrc70, hhas71⟩ := h0.at hg66.1 hg66.2 (by decide)
                  obtain rfl := kd_api_Span_open hrc70
                  refine WT.pureOn (v := (.pointer (some p67))) 60 rfl rfl rfl hb58 (PO.indexAddr (n := a0.length) Try.underlying35 sz50 rfl rfl hg66.1 hg66.2 hat69) rfl ?_
                  refine WT.pureOn (v := (.pointer (some (p67.add 1)))) 60 rfl rfl rfl hb58 (PO.fieldAddr fo50_1 rfl rfl) rfl ?_
                  refine WT.pureOn (v := (.int .i64 ((rd a0 (IntKind.i64.wrap (x3 - (1 : Int)))).Start))) 60 rfl rfl rfl hb58 (PO.loadM pl3 rfl (hhas71 1 _ rfl)) rfl ?_
                  refine WT.pureOn (v := (.bool (decide (((rd a0 x3).Start) ≤ ((rd a0 (IntKind.i64.wrap (x3 - (1 : Int)))).Start))))) 60 rfl rfl rfl hb58 (PO.leq rfl rfl) rfl ?_
                  refine WT.pureOn (v := (.bool (decide (((rd a0 x3).Start) ≤ ((rd a0 (IntKind.i64.wrap (x3 - (1 : Int)))).Start))))) 47 rfl rfl rfl hb43 (PO.pickF rfl hb58 rfl) rfl ?_
                  refine WT.pure (v := (.bool (decide (((rd a0 x3).Start) ≤ ((rd a0 (IntKind.i64.wrap (x3 - (1 : Int)))).Start))))) rfl (PO.pickT rfl hb43 rfl) rfl ?_
                  refine WT.fin ?_
                  obtain rfl := Option.some.inj h
                  refine WQ.thenJ ?_
                  exact ⟨(IM.le.refl _), rfl, hs8_0, hs8_4, hs8_5, rfl⟩
              · have h := ite_f hb43 h
                refine WT.pureOff 47 rfl rfl rfl hb43 rfl ?_
                refine WT.pureOff 47 rfl rfl rfl hb43 rfl ?_
                refine WT.pureOff 47 rfl rfl rfl hb43 rfl ?_
                refine WT.pureOff 47 rfl rfl rfl hb43 rfl ?_
                refine WT.pureOff 47 rfl rfl rfl hb43 rfl ?_
                refine WT.pureOff 47 rfl rfl rfl hb43 rfl ?_
                refine WT.pureOff 47 rfl rfl rfl hb43 rfl ?_
                refine WT.pureOff 47 rfl rfl rfl hb43 rfl ?_
                refine WT.pureOff 47 rfl rfl rfl hb43 rfl ?_
                refine WT.pureOff 47 rfl rfl rfl hb43 rfl ?_
                refine WT.pureOff 47 rfl rfl rfl hb43 rfl ?_
                refine WT.pureOff 47 rfl rfl rfl hb43 rfl ?_
                refine WT.pureOff 47 rfl rfl rfl hb43 rfl ?_
                refine WT.pureOffU 60 rfl rfl rfl  rfl ?_
                refine WT.pureOffU 60 rfl rfl rfl  rfl ?_
                refine WT.pureOffU 60 rfl rfl rfl  rfl ?_
                refine WT.pureOffU 60 rfl rfl rfl  rfl ?_
                refine WT.pureOffU 60 rfl rfl rfl  rfl ?_
                refine WT.pureOffU 60 rfl rfl rfl  rfl ?_
                refine WT.pureOffU 60 rfl rfl rfl  rfl ?_
                refine WT.pureOffU 60 rfl rfl rfl  rfl ?_
                refine WT.pureOffU 60 rfl rfl rfl  rfl ?_
                refine WT.pureOffU 60 rfl rfl rfl  rfl ?_
                refine WT.pureOffU 60 rfl rfl rfl  rfl ?_
                refine WT.pureOffU 60 rfl rfl rfl  rfl ?_
                refine WT.pureOff 47 rfl rfl rfl hb43 rfl ?_
                refine WT.pure (v := (.bool false)) rfl (PO.pickF rfl hb43 rfl) rfl ?_
                refine WT.fin ?_
                obtain rfl := Option.some.inj h
                refine WQ.thenJ ?_
                exact ⟨(IM.le.refl _), rfl, hs8_0, hs8_4, hs8_5, rfl⟩
            · rintro ρ42 M42 H42 ⟨hle42, rfl, hs42_0, hs42_4, hs42_5, hs42_74⟩
              have h0 := h0.mono hle42
              refine WC.cond (b := x41) hs42_74 (fun hb73 => ?_) (fun hb73 => ?_)
              · have h := ite_t hb73 h
                refine WC.seq ?_
                refine WC.region ?_
                refine WL.pure (v := (.int .i64 x3)) (PO.move hs42_5) rfl ?_
                refine WL.pure (v := (.int .i64 (10 : Int))) (PO.assign rfl) rfl ?_
                refine WL.pure (v := (.int .i64 x3)) (PO.assign rfl) rfl ?_
                refine WL.nil ?_
                refine WQ.thenC ?_
                refine WC.ret ?_
                refine WQ.blockR ?_
                refine WQ.thenR ?_
                refine WQ.leaveR (Sum.inr ((10 : Int), x3)) (Option.some.inj h).symm (fun heq2 => ?_)
                subst heq2
                have h := (elimR hK2)
                refine WQ.blockR ?_
                refine WQ.thenR ?_
                have h := KK.early h h31
                exact WQ.returnsF h [] rfl (results2 rfl rfl rfl) ((hle2.trans hle8).trans hle42) ⟨rfl, rfl⟩
              · have h := ite_f hb73 h
                refine WC.skip ?_
                refine WQ.blockN ?_
                refine WQ.thenC ?_
                refine WC.region ?_
                refine WL.pure (v := (.int .i64 x3)) (PO.move hs42_5) rfl ?_
                refine WL.pure (v := (.int .i64 (IntKind.i64.wrap (x3 + (1 : Int))))) (PO.add rfl rfl) rfl ?_
                refine WL.pure (v := (.int .i64 (IntKind.i64.wrap (x3 + (1 : Int))))) (PO.assign rfl) rfl ?_
                refine WL.nil ?_
                refine WQ.again (IntKind.i64.wrap (x3 + (1 : Int))) (Option.some.inj h).symm ?_
                exact ⟨((hle2.trans hle8).trans hle42), rfl, hs42_0, hs42_4, rfl⟩
      · have h := ite_f hb6 h
        refine WC.exit ?_
        refine WQ.thenE ?_
        refine WQ.leaveE (Sum.inl ()) (Option.some.inj h).symm (fun heq2 => ?_)
        subst heq2
        have h := elimL hK2
        refine WQ.blockH ?_
        refine WQ.thenFE h ?_
        exact ⟨hle2, rfl⟩
  · rintro _ ρ1 M1 H1 rfl ⟨hle1, rfl⟩
    refine WC.seq ?_
    refine WC.region ?_
    refine WL.pure (v := (.int .i64 (0 : Int))) (PO.assign rfl) rfl ?_
    refine WL.pure (v := (.int .i64 (0 : Int))) (PO.assign rfl) rfl ?_
    refine WL.nil ?_
    refine WQ.thenC ?_
    refine WC.ret ?_
    exact WQ.returnsF h [] rfl (results2 rfl rfl rfl) hle1 ⟨rfl, rfl⟩

noncomputable def f_law13_may (a0 : (List T_api_Span)) : Option Bool :=
  ((f_ref13_Check a0).bind fun (r1, r2) => (((if (decide ((a0.length : Int) ≤ (200 : Int))) = true then (some (decide (r1 = (0 : Int)))) else (some false)) : Option Bool).bind fun (x8 : Bool) => (some x8)))
def f_law13_may_post (a0 : (List T_api_Span)) (v0 : Value) : Bool → Value → IM → HL → Prop :=
  fun (r0 : Bool) (v : Value) (M' : IM) (H' : HL) => (.bool r0) = v ∧ H' = []
set_option maxHeartbeats 1000000 in
set_option maxRecDepth 100000 in
theorem f_law13_may_ok (a0 : (List T_api_Span)) (M : IM) (v0 : Value) (h0 : RS kd_api_Span M v0 a0) (res : Bool) (h : f_law13_may a0 = some res) :
    Tri Try.prog 20 #[v0] M [] (f_law13_may_post a0 v0 res) := by
  unfold f_law13_may at h
  refine Tri.enter (fn := Try.f20) Try.func20 rfl (Nat.le_of_ble_eq_true rfl) ?_
  intro F ρ hρ
  refine WC.seq ?_
  refine WC.region ?_
  refine WL.pure (v := (.bool false)) (PO.assign rfl) rfl ?_
  refine WL.nil ?_
  refine WQ.thenC ?_
  refine WC.seq ?_
  refine WC.region ?_
  refine WL.pure (v := v0) (PO.move (hρ 0)) rfl ?_
  obtain ⟨⟨r1, r2⟩, hr3, h⟩ := bnd h
  refine WL.eff (EO.call0 co33 (args1 (show ev _ _ = v0 from rfl)) (f_ref13_Check_ok a0 _ _ h0 (r1, r2) hr3)) rfl ?_
  rintro _ M4 _ hle5 ⟨_, ⟨rfl, rfl⟩, rfl⟩
  have h0 := h0.mono hle5
  refine WL.a0 ?_
  refine WL.pure (v := (.tuple #[(.int .i64 r1), (.int .i64 r2)])) (PO.move rfl) rfl ?_
  refine WL.pure (v := (.int .i64 r1)) (PO.extract rfl rfl) rfl ?_
  refine WL.pure (v := (.int .i64 r2)) (PO.extract rfl rfl) rfl ?_
  refine WL.pure (v := (.int .i64 r1)) (PO.assign rfl) rfl ?_
  refine WL.pure (v := (.int .i64 r2)) (PO.assign rfl) rfl ?_
  refine WL.nil ?_
  refine WQ.thenC ?_
  obtain ⟨x8, hj9, h⟩ := bnd h
  refine WC.joinF (fun (x8 : Bool) (ρ' : Nat → Value) (M' : IM) (H' : HL) => M4.le M' ∧ F = H' ∧ ρ' 2 = (.bool x8)) x8 ?_ ?_
  · have h39 := h
    have h := hj9
    refine WC.region ?_
    refine WL.pure (v := v0) (PO.move (hρ 0)) rfl ?_
    refine WL.pure (v := (.int .i64 (a0.length : Int))) (PO.lenS Try.underlying35 rfl h0.len) rfl ?_
    refine WL.pure (v := (.bool (decide ((a0.length : Int) ≤ (200 : Int))))) (PO.leq rfl rfl) rfl ?_
    refine WL.pure (v := (.bool (decide ((a0.length : Int) ≤ (200 : Int))))) (PO.move rfl) rfl ?_
    rcases Bool.eq_false_or_eq_true (decide ((a0.length : Int) ≤ (200 : Int))) with hb10 | hb10
    · have h := ite_t hb10 h
      refine WL.on 13 rfl rfl hb10 ?_
      refine WL.pure (v := (.int .i64 r1)) (PO.move rfl) rfl ?_
      refine WL.on 13 rfl rfl hb10 ?_
      refine WL.pure (v := (.bool (decide (r1 = (0 : Int))))) (PO.eql rfl rfl) rfl ?_
      refine WL.pure (v := (.bool (decide (r1 = (0 : Int))))) (PO.pickT rfl hb10 rfl) rfl ?_
      refine WL.pure (v := (.bool (decide (r1 = (0 : Int))))) (PO.assign rfl) rfl ?_
      refine WL.nil ?_
      obtain rfl := Option.some.inj h
      refine WQ.thenJ ?_
      exact ⟨(IM.le.refl _), rfl, rfl⟩
    · have h := ite_f hb10 h
      refine WL.off 13 rfl rfl hb10 rfl ?_
      refine WL.off 13 rfl rfl hb10 rfl ?_
      refine WL.pure (v := (.bool false)) (PO.pickF rfl hb10 rfl) rfl ?_
      refine WL.pure (v := (.bool false)) (PO.assign rfl) rfl ?_
      refine WL.nil ?_
      obtain rfl := Option.some.inj h
      refine WQ.thenJ ?_
      exact ⟨(IM.le.refl _), rfl, rfl⟩
  · rintro ρ9 M9 H9 ⟨hle9, rfl, hs9_2⟩
    refine WC.ret ?_
    exact WQ.returnsF h [] rfl (results1 rfl hs9_2) (hle5.trans hle9) ⟨rfl, rfl⟩

noncomputable def f_spans_EndOf_1 (a0 : T_api_Span) (a1 : Int) : Option Int :=
  (if (decide (a0.Term ≤ a1)) = true then (some (-1 : Int)) else (some (1 : Int)))
def f_spans_EndOf_1_post (a0 : T_api_Span) (a1 : Int) : Int → Value → IM → HL → Prop :=
  fun (r0 : Int) (v : Value) (M' : IM) (H' : HL) => (.int .i64 r0) = v ∧ H' = []
set_option maxHeartbeats 1000000 in
set_option maxRecDepth 100000 in
theorem f_spans_EndOf_1_ok (a0 : T_api_Span) (a1 : Int) (M : IM) (res : Int) (h : f_spans_EndOf_1 a0 a1 = some res) :
    Tri Try.prog 36 #[(.agg #[(.int .i64 a0.Term), (.int .i64 a0.Start)]), (.int .i64 a1)] M [] (f_spans_EndOf_1_post a0 a1 res) := by
  unfold f_spans_EndOf_1 at h
  refine Tri.enter (fn := Try.f36) Try.func36 rfl (Nat.le_of_ble_eq_true rfl) ?_
  intro F ρ hρ
  refine WC.seq ?_
  refine WC.region ?_
  refine WL.eff (EO.box (cs := #[(.int .i64 a0.Term), (.int .i64 a0.Start)]) (congrArg Value.cells (asE (.agg #[(.int .i64 a0.Term), (.int .i64 a0.Start)]) (hρ 0)))) rfl ?_
  rintro _ _ _ - ⟨rfl, g1, rfl, rfl⟩
  refine WL.pure (v := (.int .i64 (0 : Int))) (PO.assign rfl) rfl ?_
  refine WL.nil ?_
  refine WQ.thenC ?_
  refine WC.seq ?_
  refine WC.seq ?_
  refine WC.region ?_
  refine WL.pure (v := (.pointer (some ⟨g1, 0, none⟩))) (PO.fieldAddr fo50_0 rfl rfl) rfl ?_
  refine WL.pure (v := (.int .i64 a0.Term)) (PO.loadB 0 pl3 rfl rfl rfl) rfl ?_
  refine WL.pure (v := (.int .i64 a1)) (PO.move (hρ 1)) rfl ?_
  refine WL.pure (v := (.bool (decide (a0.Term ≤ a1)))) (PO.leq rfl rfl) rfl ?_
  refine WL.nil ?_
  refine WQ.thenC ?_
  refine WC.cond (b := decide (a0.Term ≤ a1)) rfl (fun hb2 => ?_) (fun hb2 => ?_)
  · have h := ite_t hb2 h
    refine WC.seq ?_
    refine WC.region ?_
    refine WL.pure (v := (.int .i64 (-1 : Int))) (PO.assign rfl) rfl ?_
    refine WL.nil ?_
    refine WQ.thenC ?_
    refine WC.ret ?_
    refine WQ.thenR ?_
    refine WQ.drop ?_
    exact WQ.returnsF h [] rfl (results1 rfl rfl) (IM.le.refl _) ⟨rfl, rfl⟩
  · have h := ite_f hb2 h
    refine WC.skip ?_
    refine WQ.thenC ?_
    refine WC.seq ?_
    refine WC.region ?_
    refine WL.pure (v := (.int .i64 (1 : Int))) (PO.assign rfl) rfl ?_
    refine WL.nil ?_
    refine WQ.thenC ?_
    refine WC.ret ?_
    refine WQ.drop ?_
    exact WQ.returnsF h [] rfl (results1 rfl rfl) (IM.le.refl _) ⟨rfl, rfl⟩

noncomputable def f_slices_BinarySearchFunc_api_Span_api_Span_int_36_l0 (a0 : (List T_api_Span)) (a1 : Int) (s_ : (Int × Int)) : Option ((Int × Int) ⊕ Int) :=
  match s_ with
  | (x4, x5) =>
    (if (decide (x4 < x5)) = true then (grd (0 ≤ IntKind.i64.wrap (shrI .u64 (IntKind.u64.wrap (IntKind.i64.wrap (x4 + x5))) (1 : Int)) ∧ IntKind.i64.wrap (shrI .u64 (IntKind.u64.wrap (IntKind.i64.wrap (x4 + x5))) (1 : Int)) < a0.length) ((f_spans_EndOf_1 (rd a0 (IntKind.i64.wrap (shrI .u64 (IntKind.u64.wrap (IntKind.i64.wrap (x4 + x5))) (1 : Int)))) a1).bind fun (r15 : Int) => (if (decide (r15 < (0 : Int))) = true then (some (Sum.inl (IntKind.i64.wrap ((IntKind.i64.wrap (shrI .u64 (IntKind.u64.wrap (IntKind.i64.wrap (x4 + x5))) (1 : Int))) + (1 : Int)), x5))) else (some (Sum.inl (x4, IntKind.i64.wrap (shrI .u64 (IntKind.u64.wrap (IntKind.i64.wrap (x4 + x5))) (1 : Int)))))))) else (some (Sum.inr x4)))
noncomputable def f_slices_BinarySearchFunc_api_Span_api_Span_int_36 (a0 : (List T_api_Span)) (a1 : Int) : Option (Int × Bool) :=
  ((((iter (f_slices_BinarySearchFunc_api_Span_api_Span_int_36_l0 a0 a1) ((0 : Int), (a0.length : Int))).bind (fun (x6 : Int) => (some x6))) : Option Int).bind fun (x1 : Int) => (((if (decide (x1 < (a0.length : Int))) = true then (grd (0 ≤ x1 ∧ x1 < a0.length) ((f_spans_EndOf_1 (rd a0 x1) a1).bind fun (r32 : Int) => (some (x1, decide (r32 = (0 : Int)))))) else (some (x1, false))) : Option (Int × Bool)).bind fun (x21, x22) => (some (x21, x22))))
def f_slices_BinarySearchFunc_api_Span_api_Span_int_36_post (a0 : (List T_api_Span)) (a1 : Int) (v0 : Value) : (Int × Bool) → Value → IM → HL → Prop :=
  fun (p_ : (Int × Bool)) (v : Value) (M' : IM) (H' : HL) => match p_ with | (r0, r1) => (.tuple #[(.int .i64 r0), (.bool r1)]) = v ∧ H' = []
set_option maxHeartbeats 1000000 in
set_option maxRecDepth 100000 in
theorem f_slices_BinarySearchFunc_api_Span_api_Span_int_36_ok (a0 : (List T_api_Span)) (a1 : Int) (M : IM) (v0 : Value) (h0 : RS kd_api_Span M v0 a0) (res : (Int × Bool)) (h : f_slices_BinarySearchFunc_api_Span_api_Span_int_36 a0 a1 = some res) :
    Tri Try.prog 35 #[v0, (.int .i64 a1), (.func (.func 36) #[] #[])] M [] (f_slices_BinarySearchFunc_api_Span_api_Span_int_36_post a0 a1 v0 res) := by
  unfold f_slices_BinarySearchFunc_api_Span_api_Span_int_36 at h
  refine Tri.enter (fn := Try.f35) Try.func35 rfl (Nat.le_of_ble_eq_true rfl) ?_
  intro F ρ hρ
  refine WC.seq ?_
  refine WC.region ?_
  refine WL.pure (v := (.int .i64 (0 : Int))) (PO.assign rfl) rfl ?_
  refine WL.pure (v := (.bool false)) (PO.assign rfl) rfl ?_
  refine WL.nil ?_
  refine WQ.thenC ?_
  refine WC.seq ?_
  refine WC.region ?_
  refine WL.pure (v := v0) (PO.move (hρ 0)) rfl ?_
  refine WL.pure (v := (.int .i64 (a0.length : Int))) (PO.lenS Try.underlying35 rfl h0.len) rfl ?_
  refine WL.pure (v := (.int .i64 (a0.length : Int))) (PO.assign rfl) rfl ?_
  refine WL.nil ?_
  refine WQ.thenC ?_
  refine WC.seq ?_
  refine WC.region ?_
  refine WL.pure (v := (.int .i64 (a0.length : Int))) (PO.move rfl) rfl ?_
  refine WL.pure (v := (.int .i64 (0 : Int))) (PO.assign rfl) rfl ?_
  refine WL.pure (v := (.int .i64 (a0.length : Int))) (PO.assign rfl) rfl ?_
  refine WL.nil ?_
  refine WQ.thenC ?_
  obtain ⟨x1, hj2, h⟩ := bnd h
  refine WC.joinF (fun (x1 : Int) (ρ' : Nat → Value) (M' : IM) (H' : HL) => M.le M' ∧ F = H' ∧ ρ' 0 = v0 ∧ ρ' 1 = (.int .i64 a1) ∧ ρ' 2 = (.func (.func 36) #[] #[]) ∧ ρ' 8 = (.int .i64 (a0.length : Int)) ∧ ρ' 9 = (.int .i64 x1)) x1 ?_ ?_
  · have h32 := h
    have h := hj2
    refine WC.block ?_
    obtain ⟨e3, he3, hK3⟩ := bnd h
    clear h
    refine WC.loop he3 (fun (p_ : (Int × Int)) (ρ' : Nat → Value) (M' : IM) (H' : HL) => match p_ with | (x4, x5) => M.le M' ∧ F = H' ∧ ρ' 0 = v0 ∧ ρ' 1 = (.int .i64 a1) ∧ ρ' 2 = (.func (.func 36) #[] #[]) ∧ ρ' 8 = (.int .i64 (a0.length : Int)) ∧ ρ' 9 = (.int .i64 x4) ∧ ρ' 10 = (.int .i64 x5)) ?_ ?_
    · exact ⟨(IM.le.refl _), rfl, (hρ 0), (hρ 1), (hρ 2), rfl, rfl, rfl⟩
    · rintro ⟨x4, x5⟩ o3 ρ3 M3 H3 h ⟨hle3, rfl, hs3_0, hs3_1, hs3_2, hs3_8, hs3_9, hs3_10⟩
      unfold f_slices_BinarySearchFunc_api_Span_api_Span_int_36_l0 at h
      have h0 := h0.mono hle3
      refine WC.seq ?_
      refine WC.seq ?_
      refine WC.region ?_
      refine WL.pure (v := (.int .i64 x4)) (PO.move hs3_9) rfl ?_
      refine WL.pure (v := (.int .i64 x5)) (PO.move hs3_10) rfl ?_
      refine WL.pure (v := (.bool (decide (x4 < x5)))) (PO.lss rfl rfl) rfl ?_
      refine WL.nil ?_
      refine WQ.thenC ?_
      refine WC.cond (b := decide (x4 < x5)) rfl (fun hb7 => ?_) (fun hb7 => ?_)
      · have h := ite_t hb7 h
        refine WC.skip ?_
        refine WQ.thenC ?_
        refine WC.block ?_
        refine WC.seq ?_
        refine WC.region ?_
        refine WL.pure (v := (.int .i64 x4)) (PO.move hs3_9) rfl ?_
        refine WL.pure (v := (.int .i64 x5)) (PO.move hs3_10) rfl ?_
        refine WL.pure (v := (.int .i64 (IntKind.i64.wrap (x4 + x5)))) (PO.add rfl rfl) rfl ?_
        refine WL.pure (v := (.int .u64 (IntKind.u64.wrap (IntKind.i64.wrap (x4 + x5))))) (PO.conv us3 Try.underlying56 rfl) rfl ?_
        refine WL.pure (v := (.int .u64 (shrI .u64 (IntKind.u64.wrap (IntKind.i64.wrap (x4 + x5))) (1 : Int)))) (PO.shr rfl rfl (by decide)) rfl ?_
        refine WL.pure (v := (.int .i64 (IntKind.i64.wrap (shrI .u64 (IntKind.u64.wrap (IntKind.i64.wrap (x4 + x5))) (1 : Int))))) (PO.conv us56 Try.underlying3 rfl) rfl ?_
        refine WL.pure (v := (.int .i64 (IntKind.i64.wrap (shrI .u64 (IntKind.u64.wrap (IntKind.i64.wrap (x4 + x5))) (1 : Int))))) (PO.assign rfl) rfl ?_
        refine WL.nil ?_
        refine WQ.thenC ?_
        refine WC.seq ?_
        refine WC.region ?_
        refine WL.pure (v := (.func (.func 36) #[] #[])) (PO.move hs3_2) rfl ?_
        refine WL.pure (v := v0) (PO.move hs3_0) rfl ?_
        refine WL.pure (v := (.int .i64 (IntKind.i64.wrap (shrI .u64 (IntKind.u64.wrap (IntKind.i64.wrap (x4 + x5))) (1 : Int))))) (PO.move rfl) rfl ?_
        obtain ⟨hg8, h⟩ := grd_i h
        obtain ⟨p9, cs10, hat11, hrc12, hhas13⟩ := h0.at hg8.1 hg8.2 (by decide)
        obtain rfl := kd_api_Span_open hrc12
        refine WL.pure (v := (.pointer (some p9))) (PO.indexAddr (n := a0.length) Try.underlying35 sz50 rfl rfl hg8.1 hg8.2 hat11) rfl ?_
        refine WL.pure (v := (.agg #[(.int .i64 ((rd a0 (IntKind.i64.wrap (shrI .u64 (IntKind.u64.wrap (IntKind.i64.wrap (x4 + x5))) (1 : Int)))).Term)), (.int .i64 ((rd a0 (IntKind.i64.wrap (shrI .u64 (IntKind.u64.wrap (IntKind.i64.wrap (x4 + x5))) (1 : Int)))).Start))])) (PO.loadMA (cs := [(.int .i64 ((rd a0 (IntKind.i64.wrap (shrI .u64 (IntKind.u64.wrap (IntKind.i64.wrap (x4 + x5))) (1 : Int)))).Term)), (.int .i64 ((rd a0 (IntKind.i64.wrap (shrI .u64 (IntKind.u64.wrap (IntKind.i64.wrap (x4 + x5))) (1 : Int)))).Start))]) ag50 sz50 rfl hhas13) rfl ?_
        refine WL.pure (v := (.int .i64 a1)) (PO.move hs3_1) rfl ?_
        obtain ⟨r15, hr16, h⟩ := bnd h
        refine WL.eff (EO.callV0 (first := #[]) (cap := #[]) co36 rfl (argsV2 (show ev _ _ = (.agg #[(.int .i64 ((rd a0 (IntKind.i64.wrap (shrI .u64 (IntKind.u64.wrap (IntKind.i64.wrap (x4 + x5))) (1 : Int)))).Term)), (.int .i64 ((rd a0 (IntKind.i64.wrap (shrI .u64 (IntKind.u64.wrap (IntKind.i64.wrap (x4 + x5))) (1 : Int)))).Start))]) from rfl) (show ev _ _ = (.int .i64 a1) from rfl) rfl) (f_spans_EndOf_1_ok (rd a0 (IntKind.i64.wrap (shrI .u64 (IntKind.u64.wrap (IntKind.i64.wrap (x4 + x5))) (1 : Int)))) a1 _ r15 hr16)) rfl ?_
        rintro _ M17 _ hle18 ⟨_, ⟨rfl, rfl⟩, rfl⟩
        have h0 := h0.mono hle18
        refine WL.a0 ?_
        refine WL.pure (v := (.bool (decide (r15 < (0 : Int))))) (PO.lss rfl rfl) rfl ?_
        refine WL.nil ?_
        refine WQ.thenC ?_
        refine WC.cond (b := decide (r15 < (0 : Int))) rfl (fun hb20 => ?_) (fun hb20 => ?_)
        · have h := ite_t hb20 h
          refine WC.region ?_
          refine WL.pure (v := (.int .i64 (IntKind.i64.wrap (shrI .u64 (IntKind.u64.wrap (IntKind.i64.wrap (x4 + x5))) (1 : Int))))) (PO.move rfl) rfl ?_
          refine WL.pure (v := (.int .i64 (IntKind.i64.wrap ((IntKind.i64.wrap (shrI .u64 (IntKind.u64.wrap (IntKind.i64.wrap (x4 + x5))) (1 : Int))) + (1 : Int))))) (PO.add rfl rfl) rfl ?_
          refine WL.pure (v := (.int .i64 (IntKind.i64.wrap ((IntKind.i64.wrap (shrI .u64 (IntKind.u64.wrap (IntKind.i64.wrap (x4 + x5))) (1 : Int))) + (1 : Int))))) (PO.assign rfl) rfl ?_
          refine WL.nil ?_
          refine WQ.blockN ?_
          refine WQ.again (IntKind.i64.wrap ((IntKind.i64.wrap (shrI .u64 (IntKind.u64.wrap (IntKind.i64.wrap (x4 + x5))) (1 : Int))) + (1 : Int)), x5) (Option.some.inj h).symm ?_
          exact ⟨(hle3.trans hle18), rfl, hs3_0, hs3_1, hs3_2, hs3_8, rfl, hs3_10⟩
        · have h := ite_f hb20 h
          refine WC.region ?_
          refine WL.pure (v := (.int .i64 (IntKind.i64.wrap (shrI .u64 (IntKind.u64.wrap (IntKind.i64.wrap (x4 + x5))) (1 : Int))))) (PO.move rfl) rfl ?_
          refine WL.pure (v := (.int .i64 (IntKind.i64.wrap (shrI .u64 (IntKind.u64.wrap (IntKind.i64.wrap (x4 + x5))) (1 : Int))))) (PO.assign rfl) rfl ?_
          refine WL.nil ?_
          refine WQ.blockN ?_
          refine WQ.again (x4, IntKind.i64.wrap (shrI .u64 (IntKind.u64.wrap (IntKind.i64.wrap (x4 + x5))) (1 : Int))) (Option.some.inj h).symm ?_
          exact ⟨(hle3.trans hle18), rfl, hs3_0, hs3_1, hs3_2, hs3_8, hs3_9, rfl⟩
      · have h := ite_f hb7 h
        refine WC.exit ?_
        refine WQ.thenE ?_
        refine WQ.leaveE x4 (Option.some.inj h).symm (fun heq3 => ?_)
        subst heq3
        have h := hK3
        refine WQ.blockH ?_
        obtain rfl := Option.some.inj h
        refine WQ.thenJ ?_
        exact ⟨hle3, rfl, hs3_0, hs3_1, hs3_2, hs3_8, hs3_9⟩
  · rintro ρ2 M2 H2 ⟨hle2, rfl, hs2_0, hs2_1, hs2_2, hs2_8, hs2_9⟩
    have h0 := h0.mono hle2
    obtain ⟨j23, hj23, h⟩ := bnd h
    refine WC.joinF (fun (p_ : (Int × Bool)) (ρ' : Nat → Value) (M' : IM) (H' : HL) => match p_ with | (x21, x22) => M2.le M' ∧ F = H' ∧ ρ' 6 = (.int .i64 x21) ∧ ρ' 7 = (.bool x22)) j23 ?_ ?_
    · have h323 := h
      have h := hj23
      refine WC.region ?_
      refine WL.pure (v := (.int .i64 x1)) (PO.move hs2_9) rfl ?_
      refine WL.pure (v := (.int .i64 x1)) (PO.move hs2_9) rfl ?_
      refine WL.pure (v := (.int .i64 (a0.length : Int))) (PO.move hs2_8) rfl ?_
      refine WL.pure (v := (.bool (decide (x1 < (a0.length : Int))))) (PO.lss rfl rfl) rfl ?_
      refine WL.pure (v := (.bool (decide (x1 < (a0.length : Int))))) (PO.move rfl) rfl ?_
      rcases Bool.eq_false_or_eq_true (decide (x1 < (a0.length : Int))) with hb24 | hb24
      · have h := ite_t hb24 h
        refine WL.on 39 rfl rfl hb24 ?_
        refine WL.pure (v := (.func (.func 36) #[] #[])) (PO.move hs2_2) rfl ?_
        refine WL.on 39 rfl rfl hb24 ?_
        refine WL.pure (v := v0) (PO.move hs2_0) rfl ?_
        refine WL.on 39 rfl rfl hb24 ?_
        refine WL.pure (v := (.int .i64 x1)) (PO.move hs2_9) rfl ?_
        refine WL.on 39 rfl rfl hb24 ?_
        obtain ⟨hg25, h⟩ := grd_i h
        obtain ⟨p26, cs27, hat28, hrc29, hhas30⟩ := h0.at hg25.1 hg25.2 (by decide)
        obtain rfl := kd_api_Span_open hrc29
        refine WL.pure (v := (.pointer (some p26))) (PO.indexAddr (n := a0.length) Try.underlying35 sz50 rfl rfl hg25.1 hg25.2 hat28) rfl ?_
        refine WL.on 39 rfl rfl hb24 ?_
        refine WL.pure (v := (.agg #[(.int .i64 ((rd a0 x1).Term)), (.int .i64 ((rd a0 x1).Start))])) (PO.loadMA (cs := [(.int .i64 ((rd a0 x1).Term)), (.int .i64 ((rd a0 x1).Start))]) ag50 sz50 rfl hhas30) rfl ?_
        refine WL.on 39 rfl rfl hb24 ?_
        refine WL.pure (v := (.int .i64 a1)) (PO.move hs2_1) rfl ?_
        refine WL.on 39 rfl rfl hb24 ?_
        obtain ⟨r32, hr33, h⟩ := bnd h
        refine WL.eff (EO.callV0 (first := #[]) (cap := #[]) co36 rfl (argsV2 (show ev _ _ = (.agg #[(.int .i64 ((rd a0 x1).Term)), (.int .i64 ((rd a0 x1).Start))]) from rfl) (show ev _ _ = (.int .i64 a1) from rfl) rfl) (f_spans_EndOf_1_ok (rd a0 x1) a1 _ r32 hr33)) rfl ?_
        rintro _ M34 _ hle35 ⟨_, ⟨rfl, rfl⟩, rfl⟩
        have h0 := h0.mono hle35
        refine WL.a0 ?_
        refine WL.on 39 rfl rfl hb24 ?_
        refine WL.pure (v := (.bool (decide (r32 = (0 : Int))))) (PO.eql rfl rfl) rfl ?_
        refine WL.pure (v := (.bool (decide (r32 = (0 : Int))))) (PO.pickT rfl hb24 rfl) rfl ?_
        refine WL.pure (v := (.int .i64 x1)) (PO.assign rfl) rfl ?_
        refine WL.pure (v := (.bool (decide (r32 = (0 : Int))))) (PO.assign rfl) rfl ?_
        refine WL.nil ?_
        obtain rfl := Option.some.inj h
        refine WQ.thenJ ?_
        exact ⟨hle35, rfl, rfl, rfl⟩
      · have h := ite_f hb24 h
        refine WL.off 39 rfl rfl hb24 rfl ?_
        refine WL.off 39 rfl rfl hb24 rfl ?_
        refine WL.off 39 rfl rfl hb24 rfl ?_
        refine WL.off 39 rfl rfl hb24 rfl ?_
        refine WL.off 39 rfl rfl hb24 rfl ?_
        refine WL.off 39 rfl rfl hb24 rfl ?_
        refine WL.off 39 rfl rfl hb24 rfl ?_
        refine WL.off 39 rfl rfl hb24 rfl ?_
        refine WL.pure (v := (.bool false)) (PO.pickF rfl hb24 rfl) rfl ?_
        refine WL.pure (v := (.int .i64 x1)) (PO.assign rfl) rfl ?_
        refine WL.pure (v := (.bool false)) (PO.assign rfl) rfl ?_
        refine WL.nil ?_
        obtain rfl := Option.some.inj h
        refine WQ.thenJ ?_
        exact ⟨(IM.le.refl _), rfl, rfl, rfl⟩
    · obtain ⟨x21, x22⟩ := j23
      rintro ρ23 M23 H23 ⟨hle23, rfl, hs23_6, hs23_7⟩
      refine WC.ret ?_
      exact WQ.returnsF h [] rfl (results2 rfl hs23_6 hs23_7) (hle2.trans hle23) ⟨rfl, rfl⟩

noncomputable def f_spans_EndOf (a0 : (List T_api_Span)) (a1 : Int) (a2 : Int) : Option (Int × Int × Bool) :=
  ((f_slices_BinarySearchFunc_api_Span_api_Span_int_36 a0 a1).bind fun (r1, r2) => (if (decide (r1 = (0 : Int))) = true then (some ((0 : Int), (0 : Int), false)) else (if (decide (r1 = (a0.length : Int))) = true then (grd (0 ≤ IntKind.i64.wrap (r1 - (1 : Int)) ∧ IntKind.i64.wrap (r1 - (1 : Int)) < a0.length) (some ((rd a0 (IntKind.i64.wrap (r1 - (1 : Int)))).Term, a2, true))) else (grd (0 ≤ IntKind.i64.wrap (r1 - (1 : Int)) ∧ IntKind.i64.wrap (r1 - (1 : Int)) < a0.length) (grd (0 ≤ r1 ∧ r1 < a0.length) (some ((rd a0 (IntKind.i64.wrap (r1 - (1 : Int)))).Term, (rd a0 r1).Start, true)))))))
def f_spans_EndOf_post (a0 : (List T_api_Span)) (a1 : Int) (a2 : Int) (v0 : Value) : (Int × Int × Bool) → Value → IM → HL → Prop :=
  fun (p_ : (Int × Int × Bool)) (v : Value) (M' : IM) (H' : HL) => match p_ with | (r0, r1, r2) => (.tuple #[(.int .i64 r0), (.int .i64 r1), (.bool r2)]) = v ∧ H' = []
set_option maxHeartbeats 1000000 in
set_option maxRecDepth 100000 in
theorem f_spans_EndOf_ok (a0 : (List T_api_Span)) (a1 : Int) (a2 : Int) (M : IM) (v0 : Value) (h0 : RS kd_api_Span M v0 a0) (res : (Int × Int × Bool)) (h : f_spans_EndOf a0 a1 a2 = some res) :
    Tri Try.prog 22 #[v0, (.int .i64 a1), (.int .i64 a2)] M [] (f_spans_EndOf_post a0 a1 a2 v0 res) := by
  unfold f_spans_EndOf at h
  refine Tri.enter (fn := Try.f22) Try.func22 rfl (Nat.le_of_ble_eq_true rfl) ?_
  intro F ρ hρ
  refine WC.seq ?_
  refine WC.region ?_
  refine WL.pure (v := (.int .i64 (0 : Int))) (PO.assign rfl) rfl ?_
  refine WL.pure (v := (.int .i64 (0 : Int))) (PO.assign rfl) rfl ?_
  refine WL.pure (v := (.bool false)) (PO.assign rfl) rfl ?_
  refine WL.nil ?_
  refine WQ.thenC ?_
  refine WC.seq ?_
  refine WC.region ?_
  refine WL.pure (v := v0) (PO.move (hρ 0)) rfl ?_
  refine WL.pure (v := (.int .i64 a1)) (PO.move (hρ 1)) rfl ?_
  obtain ⟨⟨r1, r2⟩, hr3, h⟩ := bnd h
  refine WL.eff (EO.call0 co35 (args3 (show ev _ _ = v0 from rfl) (show ev _ _ = (.int .i64 a1) from rfl) (show ev _ _ = (.func (.func 36) #[] #[]) from rfl)) (f_slices_BinarySearchFunc_api_Span_api_Span_int_36_ok a0 a1 _ _ h0 (r1, r2) hr3)) rfl ?_
  rintro _ M4 _ hle5 ⟨_, ⟨rfl, rfl⟩, rfl⟩
  have h0 := h0.mono hle5
  refine WL.a0 ?_
  refine WL.pure (v := (.tuple #[(.int .i64 r1), (.bool r2)])) (PO.move rfl) rfl ?_
  refine WL.pure (v := (.int .i64 r1)) (PO.extract rfl rfl) rfl ?_
  refine WL.pure (v := (.bool r2)) (PO.extract rfl rfl) rfl ?_
  refine WL.pure (v := (.int .i64 r1)) (PO.assign rfl) rfl ?_
  refine WL.pure (v := (.bool r2)) (PO.assign rfl) rfl ?_
  refine WL.nil ?_
  refine WQ.thenC ?_
  refine WC.seq ?_
  refine WC.block ?_
  refine WC.seq ?_
  refine WC.region ?_
  refine WL.pure (v := (.int .i64 r1)) (PO.move rfl) rfl ?_
  refine WL.pure (v := (.bool (decide (r1 = (0 : Int))))) (PO.eql rfl rfl) rfl ?_
  refine WL.pure (v := (.bool (decide (r1 = (0 : Int))))) (PO.assign rfl) rfl ?_
  refine WL.nil ?_
  refine WQ.thenC ?_
  refine WC.cond (b := decide (r1 = (0 : Int))) rfl (fun hb8 => ?_) (fun hb8 => ?_)
  · have h := ite_t hb8 h
    refine WC.seq ?_
    refine WC.region ?_
    refine WL.pure (v := (.int .i64 (0 : Int))) (PO.assign rfl) rfl ?_
    refine WL.pure (v := (.int .i64 (0 : Int))) (PO.assign rfl) rfl ?_
    refine WL.pure (v := (.bool false)) (PO.assign rfl) rfl ?_
    refine WL.nil ?_
    refine WQ.thenC ?_
    refine WC.ret ?_
    refine WQ.blockR ?_
    refine WQ.thenR ?_
    exact WQ.returnsF h [] rfl (results3 rfl rfl rfl rfl) hle5 ⟨rfl, rfl⟩
  · have h := ite_f hb8 h
    refine WC.seq ?_
    refine WC.region ?_
    refine WL.pure (v := (.int .i64 r1)) (PO.move rfl) rfl ?_
    refine WL.pure (v := v0) (PO.move (hρ 0)) rfl ?_
    refine WL.pure (v := (.int .i64 (a0.length : Int))) (PO.lenS Try.underlying35 rfl h0.len) rfl ?_
    refine WL.pure (v := (.bool (decide (r1 = (a0.length : Int))))) (PO.eql rfl rfl) rfl ?_
    refine WL.pure (v := (.bool (decide (r1 = (a0.length : Int))))) (PO.assign rfl) rfl ?_
    refine WL.nil ?_
    refine WQ.thenC ?_
    refine WC.cond (b := decide (r1 = (a0.length : Int))) rfl (fun hb9 => ?_) (fun hb9 => ?_)
    · have h := ite_t hb9 h
      refine WC.seq ?_
      refine WC.region ?_
      refine WL.pure (v := v0) (PO.move (hρ 0)) rfl ?_
      refine WL.pure (v := (.int .i64 r1)) (PO.move rfl) rfl ?_
      refine WL.pure (v := (.int .i64 (IntKind.i64.wrap (r1 - (1 : Int))))) (PO.sub rfl rfl) rfl ?_
      obtain ⟨hg10, h⟩ := grd_i h
      obtain ⟨p11, cs12, hat13, hrc14, hhas15⟩ := h0.at hg10.1 hg10.2 (by decide)
      obtain rfl := kd_api_Span_open hrc14
      refine WL.pure (v := (.pointer (some p11))) (PO.indexAddr (n := a0.length) Try.underlying35 sz50 rfl rfl hg10.1 hg10.2 hat13) rfl ?_
      refine WL.pure (v := (.pointer (some (p11.add 0)))) (PO.fieldAddr fo50_0 rfl rfl) rfl ?_
      refine WL.pure (v := (.int .i64 ((rd a0 (IntKind.i64.wrap (r1 - (1 : Int)))).Term))) (PO.loadM pl3 rfl (IM.has0 hhas15)) rfl ?_
      refine WL.pure (v := (.int .i64 a2)) (PO.move (hρ 2)) rfl ?_
      refine WL.pure (v := (.int .i64 ((rd a0 (IntKind.i64.wrap (r1 - (1 : Int)))).Term))) (PO.assign rfl) rfl ?_
      refine WL.pure (v := (.int .i64 a2)) (PO.assign rfl) rfl ?_
      refine WL.pure (v := (.bool true)) (PO.assign rfl) rfl ?_
      refine WL.nil ?_
      refine WQ.thenC ?_
      refine WC.ret ?_
      refine WQ.blockR ?_
      refine WQ.thenR ?_
      exact WQ.returnsF h [] rfl (results3 rfl rfl rfl rfl) hle5 ⟨rfl, rfl⟩
    · have h := ite_f hb9 h
      refine WC.skip ?_
      refine WQ.blockN ?_
      refine WQ.thenC ?_
      refine WC.seq ?_
      refine WC.draw [0, 0, 2, 7, 15, 31, 0, 0, 192, 448, 960, 63, 4095, 8191] (.pure 0 (.pure 1 (.pure 2 (.pure 3 (.pure 4 (.pure 5 (.pure 6 (.pure 7 (.pure 8 (.pure 9 (.pure 10 (.pure 11 (.pure 12 (.pure 13 .done)))))))))))))) mixed (by kernel_rfl) ?_
      refine WT.pure (v := v0) rfl (PO.move (hρ 0)) rfl ?_
      refine WT.pure (v := (.int .i64 r1)) rfl (PO.move rfl) rfl ?_
      refine WT.pure (v := (.int .i64 (IntKind.i64.wrap (r1 - (1 : Int))))) rfl (PO.sub rfl rfl) rfl ?_
      obtain ⟨hg17, h⟩ := grd_i h
      obtain ⟨p18, cs19, hat20, hrc21, hhas22⟩ := h0.at hg17.1 hg17.2 (by decide)
      obtain rfl := kd_api_Span_open hrc21
      refine WT.pure (v := (.pointer (some p18))) rfl (PO.indexAddr (n := a0.length) Try.underlying35 sz50 rfl rfl hg17.1 hg17.2 hat20) rfl ?_
      refine WT.pure (v := (.pointer (some (p18.add 0)))) rfl (PO.fieldAddr fo50_0 rfl rfl) rfl ?_
      refine WT.pure (v := (.int .i64 ((rd a0 (IntKind.i64.wrap (r1 - (1 : Int)))).Term))) rfl (PO.loadM pl3 rfl (IM.has0 hhas22)) rfl ?_
      refine WT.pure (v := v0) rfl (PO.move (hρ 0)) rfl ?_
      refine WT.pure (v := (.int .i64 r1)) rfl (PO.move rfl) rfl ?_
      obtain ⟨hg24, h⟩ := grd_i h
      obtain ⟨p25, cs26, hat27, hrc28, hhas29⟩ := h0.at hg24.1 hg24.2 (by decide)
      obtain rfl := kd_api_Span_open hrc28
      refine WT.pure (v := (.pointer (some p25))) rfl (PO.indexAddr (n := a0.length) Try.underlying35 sz50 rfl rfl hg24.1 hg24.2 hat27) rfl ?_
      refine WT.pure (v := (.pointer (some (p25.add 1)))) rfl (PO.fieldAddr fo50_1 rfl rfl) rfl ?_
      refine WT.pure (v := (.int .i64 ((rd a0 r1).Start))) rfl (PO.loadM pl3 rfl (hhas29 1 _ rfl)) rfl ?_
      refine WT.pure (v := (.int .i64 ((rd a0 (IntKind.i64.wrap (r1 - (1 : Int)))).Term))) rfl (PO.assign rfl) rfl ?_
      refine WT.pure (v := (.int .i64 ((rd a0 r1).Start))) rfl (PO.assign rfl) rfl ?_
      refine WT.pure (v := (.bool true)) rfl (PO.assign rfl) rfl ?_
      refine WT.fin ?_
      refine WQ.thenC ?_
      refine WC.ret ?_
      exact WQ.returnsF h [] rfl (results3 rfl rfl rfl rfl) hle5 ⟨rfl, rfl⟩

noncomputable def f_spans_l0 (a0 : (List T_api_Span)) : Option (Int × Int × Bool) :=
  (if (decide ((a0.length : Int) = (0 : Int))) = true then (some ((0 : Int), (0 : Int), true)) else (grd (0 ≤ (0 : Int) ∧ (0 : Int) < a0.length) (some ((0 : Int), (rd a0 (0 : Int)).Start, true))))
def f_spans_l0_post (a0 : (List T_api_Span)) (v0 : Value) : (Int × Int × Bool) → Value → IM → HL → Prop :=
  fun (p_ : (Int × Int × Bool)) (v : Value) (M' : IM) (H' : HL) => match p_ with | (r0, r1, r2) => (.tuple #[(.int .i64 r0), (.int .i64 r1), (.bool r2)]) = v ∧ H' = []
set_option maxHeartbeats 1000000 in
set_option maxRecDepth 100000 in
theorem f_spans_l0_ok (a0 : (List T_api_Span)) (M : IM) (v0 : Value) (h0 : RS kd_api_Span M v0 a0) (res : (Int × Int × Bool)) (h : f_spans_l0 a0 = some res) :
    Tri Try.prog 37 #[v0] M [] (f_spans_l0_post a0 v0 res) := by
  unfold f_spans_l0 at h
  refine Tri.enter (fn := Try.f37) Try.func37 rfl (Nat.le_of_ble_eq_true rfl) ?_
  intro F ρ hρ
  refine WC.seq ?_
  refine WC.region ?_
  refine WL.pure (v := (.int .i64 (0 : Int))) (PO.assign rfl) rfl ?_
  refine WL.pure (v := (.int .i64 (0 : Int))) (PO.assign rfl) rfl ?_
  refine WL.pure (v := (.bool false)) (PO.assign rfl) rfl ?_
  refine WL.nil ?_
  refine WQ.thenC ?_
  refine WC.seq ?_
  refine WC.seq ?_
  refine WC.region ?_
  refine WL.pure (v := v0) (PO.move (hρ 0)) rfl ?_
  refine WL.pure (v := (.int .i64 (a0.length : Int))) (PO.lenS Try.underlying35 rfl h0.len) rfl ?_
  refine WL.pure (v := (.bool (decide ((a0.length : Int) = (0 : Int))))) (PO.eql rfl rfl) rfl ?_
  refine WL.nil ?_
  refine WQ.thenC ?_
  refine WC.cond (b := decide ((a0.length : Int) = (0 : Int))) rfl (fun hb1 => ?_) (fun hb1 => ?_)
  · have h := ite_t hb1 h
    refine WC.seq ?_
    refine WC.region ?_
    refine WL.pure (v := (.int .i64 (0 : Int))) (PO.assign rfl) rfl ?_
    refine WL.pure (v := (.int .i64 (0 : Int))) (PO.assign rfl) rfl ?_
    refine WL.pure (v := (.bool true)) (PO.assign rfl) rfl ?_
    refine WL.nil ?_
    refine WQ.thenC ?_
    refine WC.ret ?_
    refine WQ.thenR ?_
    exact WQ.returnsF h [] rfl (results3 rfl rfl rfl rfl) (IM.le.refl _) ⟨rfl, rfl⟩
  · have h := ite_f hb1 h
    refine WC.skip ?_
    refine WQ.thenC ?_
    refine WC.seq ?_
    refine WC.draw [0, 1, 3, 7, 0, 31, 63] (.pure 0 (.pure 1 (.pure 2 (.pure 3 (.pure 4 (.pure 5 (.pure 6 .done))))))) mixed (by kernel_rfl) ?_
    refine WT.pure (v := v0) rfl (PO.move (hρ 0)) rfl ?_
    obtain ⟨hg2, h⟩ := grd_i h
    obtain ⟨p3, cs4, hat5, hrc6, hhas7⟩ := h0.at hg2.1 hg2.2 (by decide)
    obtain rfl := kd_api_Span_open hrc6
    refine WT.pure (v := (.pointer (some p3))) rfl (PO.indexAddr (n := a0.length) Try.underlying35 sz50 rfl rfl hg2.1 hg2.2 hat5) rfl ?_
    refine WT.pure (v := (.pointer (some (p3.add 1)))) rfl (PO.fieldAddr fo50_1 rfl rfl) rfl ?_
    refine WT.pure (v := (.int .i64 ((rd a0 (0 : Int)).Start))) rfl (PO.loadM pl3 rfl (hhas7 1 _ rfl)) rfl ?_
    refine WT.pure (v := (.int .i64 (0 : Int))) rfl (PO.assign rfl) rfl ?_
    refine WT.pure (v := (.int .i64 ((rd a0 (0 : Int)).Start))) rfl (PO.assign rfl) rfl ?_
    refine WT.pure (v := (.bool true)) rfl (PO.assign rfl) rfl ?_
    refine WT.fin ?_
    refine WQ.thenC ?_
    refine WC.ret ?_
    exact WQ.returnsF h [] rfl (results3 rfl rfl rfl rfl) (IM.le.refl _) ⟨rfl, rfl⟩


end Go.Proofs.Ytmifmgpfjamdkaa.G
