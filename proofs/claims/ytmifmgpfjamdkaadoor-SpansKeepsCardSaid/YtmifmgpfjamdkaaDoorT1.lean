/- Go functions: what they come to, and that they do. Printed by a program of the session (gen). -/
import Derived.Test.YtmifmgpfjamdkaaDoorTF
import Derived.Test.YtmifmgpfjamdkaaDoorT0
set_option linter.unusedVariables false
set_option linter.unusedSimpArgs false
namespace Go.Proofs.YtmifmgpfjamdkaaDoor.G
open Go Go.KK

noncomputable def f_spans_Check_l0 (a0 : (List T_api_Span)) (s_ : Int) : Option (Int ⊕ (Unit ⊕ GErr)) :=
  match s_ with
  | x23 =>
    (if (decide (x23 < (a0.length : Int))) = true then (grd (0 ≤ x23 ∧ x23 < a0.length) (((if (decide (((rd a0 x23).Term) < (0 : Int))) = true then (some true) else (if (decide ((1073741824 : Int) < ((rd a0 x23).Term))) = true then (some true) else (if (decide (((rd a0 x23).Start) < (0 : Int))) = true then (some true) else (some (decide ((1073741824 : Int) < ((rd a0 x23).Start))))))) : Option Bool).bind fun (x34 : Bool) => (if x34 = true then ((f_fault_New (⟨#[115, 112, 97, 110]⟩ : ByteArray) x23 (2 : Int)).bind fun (r40 : GErr) => (some (Sum.inr (Sum.inr r40)))) else (((if (decide ((0 : Int) < x23)) = true then (grd (0 ≤ IntKind.i64.wrap (x23 - (1 : Int)) ∧ IntKind.i64.wrap (x23 - (1 : Int)) < a0.length) (if (decide (((rd a0 x23).Term) ≤ ((rd a0 (IntKind.i64.wrap (x23 - (1 : Int)))).Term))) = true then (some true) else (grd (0 ≤ IntKind.i64.wrap (x23 - (1 : Int)) ∧ IntKind.i64.wrap (x23 - (1 : Int)) < a0.length) (some (decide (((rd a0 x23).Start) ≤ ((rd a0 (IntKind.i64.wrap (x23 - (1 : Int)))).Start))))))) else (some false)) : Option Bool).bind fun (x45 : Bool) => (if x45 = true then ((f_fault_New (⟨#[115, 112, 97, 110]⟩ : ByteArray) x23 (10 : Int)).bind fun (r64 : GErr) => (some (Sum.inr (Sum.inr r64)))) else (some (Sum.inl (IntKind.i64.wrap (x23 + (1 : Int)))))))))) else (some (Sum.inr (Sum.inl ()))))
noncomputable def f_spans_Check (a0 : (List T_api_Span)) : Option GErr :=
  ((((iter (f_spans_Check_l0 a0) (0 : Int)).bind (Sum.elim (fun _ => (some (Sum.inl ()))) (fun (x24 : GErr) => (((some x24)).bind fun r => some (Sum.inr r))))) : Option (Unit ⊕ GErr)).bind (Sum.elim (fun _ => (some GErr.nil)) some))
def f_spans_Check_post (a0 : (List T_api_Span)) (v0 : Value) : GErr → Value → IM → HL → Prop :=
  fun (r0 : GErr) (v : Value) (M' : IM) (H' : HL) => (GV r0) = v ∧ H' = []
set_option maxHeartbeats 1000000 in
set_option maxRecDepth 100000 in
theorem f_spans_Check_ok (a0 : (List T_api_Span)) (M : IM) (v0 : Value) (h0 : RS kd_api_Span M v0 a0) (res : GErr) (h : f_spans_Check a0 = some res) :
    Tri Tryd.prog 20 #[v0] M [] (f_spans_Check_post a0 v0 res) := by
 unfold f_spans_Check at h
 refine Tri.enter (fn := Tryd.f20) Tryd.func20 rfl (Nat.le_of_ble_eq_true rfl) ?_
 intro F ρ hρ
 refine Sr ?_
 refine Pa (GV GErr.nil) rfl rfl ?_
 refine Nt ?_
 obtain ⟨j21, hj21, h⟩ := bnd h
 refine WC.joinE (fun (_ : Unit) ρ' M' H' => M.le M' ∧ F = H') j21 ?_ ?_
 have h321 := h
 have h := hj21
 refine Sr ?_
 refine Pm v0 (hρ 0) rfl ?_
 refine Pu (.int .i64 (a0.length : Int)) (PO.lenS Tryd.underlying45 rfl h0.len) rfl ?_
 refine Pm (.int .i64 (0 : Int)) rfl rfl ?_
 refine Nt ?_
 refine WC.block ?_
 obtain ⟨e22, he22, hK22⟩ := bnd h
 clear h
 refine WC.loop he22 (fun (x23 : Int) ρ' M' H' => M.le M' ∧ F = H' ∧ ρ' 0 = v0 ∧ ρ' 5 = v0 ∧ ρ' 6 = (.int .i64 (a0.length : Int)) ∧ ρ' 7 = (.int .i64 x23)) ?_ ?_
 exact ⟨(IM.le.refl _), rfl, (hρ 0), rfl, rfl, rfl⟩
 rintro x23 o22 ρ22 M22 H22 h ⟨hle22, rfl, hs22_0, hs22_5, hs22_6, hs22_7⟩
 unfold f_spans_Check_l0 at h
 have h0 := h0.mono hle22
 refine Sr ?_
 refine Pu (.bool (decide (x23 < (a0.length : Int)))) (PO.lss hs22_7 hs22_6) rfl ?_
 refine Nt ?_
 refine WC.seq ?_
 refine WC.cond (b := decide (x23 < (a0.length : Int))) rfl (fun hb25 => ?_) (fun hb25 => ?_)
 have h := ite_t hb25 h
 refine WC.skip ?_
 refine WQ.thenC ?_
 refine WC.seq ?_
 refine WC.block ?_
 refine Sr ?_
 refine Pm (.int .i64 x23) hs22_7 rfl ?_
 obtain ⟨hg26, h⟩ := grd_i h
 obtain ⟨p27, cs28, hat29, hrc30, hhas31⟩ := h0.at hg26.1 hg26.2 (by decide)
 obtain rfl := kd_api_Span_open hrc30
 refine Pu (.pointer (some p27)) (PO.indexAddr (n := a0.length) Tryd.underlying45 sz73 hs22_5 hs22_7 hg26.1 hg26.2 hat29) rfl ?_
 refine Pu (.agg #[(.int .i64 ((rd a0 x23).Term)), (.int .i64 ((rd a0 x23).Start))]) (PO.loadMA (cs := [(.int .i64 ((rd a0 x23).Term)), (.int .i64 ((rd a0 x23).Start))]) ag73 sz73 rfl hhas31) rfl ?_
 refine WL.eff (EO.alloc ze73 rfl) rfl ?_
 rintro _ _ _ - ⟨rfl, g33, rfl, rfl⟩
 refine Pa (.int .i64 x23) rfl rfl ?_
 refine WL.eff (EO.storeL (v := (.agg #[(.int .i64 ((rd a0 x23).Term)), (.int .i64 ((rd a0 x23).Start))])) (vl := [(.int .i64 ((rd a0 x23).Term)), (.int .i64 ((rd a0 x23).Start))]) (arr' := [(.int .i64 ((rd a0 x23).Term)), (.int .i64 ((rd a0 x23).Start))]) rfl sz73 rfl rfl (onesOf (Ones.cons rfl (Ones.cons rfl Ones.nil))) rfl rfl rfl) rfl ?_
 rintro _ _ _ - ⟨rfl, rfl⟩
 refine Nt ?_
 refine WC.seq ?_
 obtain ⟨x34, hj35, h⟩ := bnd h
 refine WC.joinF (fun (x34 : Bool) ρ' M' H' => M22.le M' ∧ [(g33, .cells #[(.int .i64 ((rd a0 x23).Term)), (.int .i64 ((rd a0 x23).Start))] 73 (0, 0))] :: F = H' ∧ ρ' 0 = v0 ∧ ρ' 3 = (.int .i64 x23) ∧ ρ' 4 = (.pointer (some ⟨g33, 0, none⟩)) ∧ ρ' 5 = v0 ∧ ρ' 6 = (.int .i64 (a0.length : Int)) ∧ ρ' 7 = (.int .i64 x23) ∧ ρ' 29 = (.bool x34)) x34 ?_ ?_
 have h335 := h
 have h := hj35
 refine WC.region ?_
 refine Pu (.pointer (some ⟨g33, 0, none⟩)) (PO.fieldAddr fo73_0 rfl rfl) rfl ?_
 refine Pu (.int .i64 ((rd a0 x23).Term)) (PO.loadB 0 pl3 rfl rfl rfl) rfl ?_
 refine Pu (.bool (decide (((rd a0 x23).Term) < (0 : Int)))) (PO.lss rfl rfl) rfl ?_
 refine Pm (.bool (decide (((rd a0 x23).Term) < (0 : Int)))) rfl rfl ?_
 rcases Bool.eq_false_or_eq_true (decide (((rd a0 x23).Term) < (0 : Int))) with hb36 | hb36
 have h := ite_t hb36 h
 iterate 3 refine Of 15 rfl rfl hb36 rfl ?_
 refine Pu (.bool true) (PO.pickT rfl hb36 rfl) rfl ?_
 refine Pm (.bool true) rfl rfl ?_
 iterate 3 refine Of 20 rfl rfl rfl rfl ?_
 refine Pu (.bool true) (PO.pickT rfl rfl rfl) rfl ?_
 refine Pm (.bool true) rfl rfl ?_
 iterate 3 refine Of 25 rfl rfl rfl rfl ?_
 refine Pu (.bool true) (PO.pickT rfl rfl rfl) rfl ?_
 refine WL.nil ?_
 obtain rfl := Option.some.inj h
 refine WQ.thenJ ?_
 exact ⟨(IM.le.refl _), rfl, hs22_0, rfl, rfl, hs22_5, hs22_6, hs22_7, rfl⟩
 have h := ite_f hb36 h
 refine On 15 rfl rfl hb36 ?_
 refine Pu (.pointer (some ⟨g33, 0, none⟩)) (PO.fieldAddr fo73_0 rfl rfl) rfl ?_
 refine On 15 rfl rfl hb36 ?_
 refine Pu (.int .i64 ((rd a0 x23).Term)) (PO.loadB 0 pl3 rfl rfl rfl) rfl ?_
 refine On 15 rfl rfl hb36 ?_
 refine Pu (.bool (decide ((1073741824 : Int) < ((rd a0 x23).Term)))) (PO.gtr rfl rfl) rfl ?_
 refine Pu (.bool (decide ((1073741824 : Int) < ((rd a0 x23).Term)))) (PO.pickF rfl hb36 rfl) rfl ?_
 refine Pm (.bool (decide ((1073741824 : Int) < ((rd a0 x23).Term)))) rfl rfl ?_
 rcases Bool.eq_false_or_eq_true (decide ((1073741824 : Int) < ((rd a0 x23).Term))) with hb37 | hb37
 have h := ite_t hb37 h
 iterate 3 refine Of 20 rfl rfl hb37 rfl ?_
 refine Pu (.bool true) (PO.pickT rfl hb37 rfl) rfl ?_
 refine Pm (.bool true) rfl rfl ?_
 iterate 3 refine Of 25 rfl rfl rfl rfl ?_
 refine Pu (.bool true) (PO.pickT rfl rfl rfl) rfl ?_
 refine WL.nil ?_
 obtain rfl := Option.some.inj h
 refine WQ.thenJ ?_
 exact ⟨(IM.le.refl _), rfl, hs22_0, rfl, rfl, hs22_5, hs22_6, hs22_7, rfl⟩
 have h := ite_f hb37 h
 refine On 20 rfl rfl hb37 ?_
 refine Pu (.pointer (some ⟨g33, 1, none⟩)) (PO.fieldAddr fo73_1 rfl rfl) rfl ?_
 refine On 20 rfl rfl hb37 ?_
 refine Pu (.int .i64 ((rd a0 x23).Start)) (PO.loadB 0 pl3 rfl rfl rfl) rfl ?_
 refine On 20 rfl rfl hb37 ?_
 refine Pu (.bool (decide (((rd a0 x23).Start) < (0 : Int)))) (PO.lss rfl rfl) rfl ?_
 refine Pu (.bool (decide (((rd a0 x23).Start) < (0 : Int)))) (PO.pickF rfl hb37 rfl) rfl ?_
 refine Pm (.bool (decide (((rd a0 x23).Start) < (0 : Int)))) rfl rfl ?_
 rcases Bool.eq_false_or_eq_true (decide (((rd a0 x23).Start) < (0 : Int))) with hb38 | hb38
 have h := ite_t hb38 h
 iterate 3 refine Of 25 rfl rfl hb38 rfl ?_
 refine Pu (.bool true) (PO.pickT rfl hb38 rfl) rfl ?_
 refine WL.nil ?_
 obtain rfl := Option.some.inj h
 refine WQ.thenJ ?_
 exact ⟨(IM.le.refl _), rfl, hs22_0, rfl, rfl, hs22_5, hs22_6, hs22_7, rfl⟩
 have h := ite_f hb38 h
 refine On 25 rfl rfl hb38 ?_
 refine Pu (.pointer (some ⟨g33, 1, none⟩)) (PO.fieldAddr fo73_1 rfl rfl) rfl ?_
 refine On 25 rfl rfl hb38 ?_
 refine Pu (.int .i64 ((rd a0 x23).Start)) (PO.loadB 0 pl3 rfl rfl rfl) rfl ?_
 refine On 25 rfl rfl hb38 ?_
 refine Pu (.bool (decide ((1073741824 : Int) < ((rd a0 x23).Start)))) (PO.gtr rfl rfl) rfl ?_
 refine Pu (.bool (decide ((1073741824 : Int) < ((rd a0 x23).Start)))) (PO.pickF rfl hb38 rfl) rfl ?_
 refine WL.nil ?_
 obtain rfl := Option.some.inj h
 refine WQ.thenJ ?_
 exact ⟨(IM.le.refl _), rfl, hs22_0, rfl, rfl, hs22_5, hs22_6, hs22_7, rfl⟩
 rintro ρ35 M35 H35 ⟨hle35, rfl, hs35_0, hs35_3, hs35_4, hs35_5, hs35_6, hs35_7, hs35_29⟩
 have h0 := h0.mono hle35
 refine WC.cond (b := x34) hs35_29 (fun hb39 => ?_) (fun hb39 => ?_)
 have h := ite_t hb39 h
 refine Sr ?_
 refine Pm (.int .i64 x23) hs35_3 rfl ?_
 obtain ⟨r40, hr41, h⟩ := bnd h
 refine WL.eff (EO.call0 co29 (f_fault_New_ok (⟨#[115, 112, 97, 110]⟩ : ByteArray) x23 (2 : Int) _ r40 hr41) (args3 rfl rfl rfl)) rfl ?_
 rintro _ M42 _ hle43 ⟨_, ⟨rfl, rfl⟩, rfl⟩
 have h0 := h0.mono hle43
 refine WL.a0 ?_
 refine Pa (GV r40) rfl rfl ?_
 refine Nt ?_
 refine WC.ret ?_
 refine WQ.thenR ?_
 refine WQ.blockR ?_
 refine WQ.thenR ?_
 refine WQ.leaveR (Sum.inr r40) (Option.some.inj h).symm (fun heq22 => ?_)
 subst heq22
 have h := (elimR hK22)
 refine WQ.blockR ?_
 refine WQ.thenR ?_
 have h := KK.early h h321
 refine WQ.drop ?_
 exact WQ.returnsF h [] rfl (results1 rfl rfl) ((hle22.trans hle35).trans hle43) ⟨rfl, rfl⟩
 have h := ite_f hb39 h
 refine WC.skip ?_
 refine WQ.thenC ?_
 obtain ⟨x45, hj46, h⟩ := bnd h
 refine WC.joinF (fun (x45 : Bool) ρ' M' H' => M35.le M' ∧ [(g33, .cells #[(.int .i64 ((rd a0 x23).Term)), (.int .i64 ((rd a0 x23).Start))] 73 (0, 0))] :: F = H' ∧ ρ' 0 = v0 ∧ ρ' 3 = (.int .i64 x23) ∧ ρ' 5 = v0 ∧ ρ' 6 = (.int .i64 (a0.length : Int)) ∧ ρ' 7 = (.int .i64 x23) ∧ ρ' 55 = (.bool x45)) x45 ?_ ?_
 have h346 := h
 have h := hj46
 refine WC.draw [0, 1, 3, 7, 7, 23, 63, 127, 255, 7, 519, 2047, 4095, 8191, 8191, 24575, 65535, 131071, 262143, 8191, 532479, 2097151, 4194303, 8388607] (.pure 0 (.pure 1 (.pure 2 (.pure 3 (.pure 4 (.pure 5 (.pure 6 (.pure 7 (.pure 8 (.pure 9 (.pure 10 (.pure 11 (.pure 12 (.pure 13 (.pure 14 (.pure 15 (.pure 16 (.pure 17 (.pure 18 (.pure 19 (.pure 20 (.pure 21 (.pure 22 (.pure 23 .done)))))))))))))))))))))))) mixed (by kernel_rfl) ?_
 refine Tp (.int .i64 x23) rfl (PO.move hs35_3) rfl ?_
 refine Tp (.bool (decide ((0 : Int) < x23))) rfl (PO.gtr rfl rfl) rfl ?_
 refine Tp (.bool (decide ((0 : Int) < x23))) rfl (PO.move rfl) rfl ?_
 rcases Bool.eq_false_or_eq_true (decide ((0 : Int) < x23)) with hb47 | hb47
 have h := ite_t hb47 h
 refine Tn v0 34 rfl rfl rfl hb47 (PO.move hs35_0) rfl ?_
 refine Tn (.int .i64 x23) 34 rfl rfl rfl hb47 (PO.move hs35_3) rfl ?_
 refine Tn (.int .i64 (IntKind.i64.wrap (x23 - (1 : Int)))) 34 rfl rfl rfl hb47 (PO.sub rfl rfl) rfl ?_
 obtain ⟨hg48, h⟩ := grd_i h
 obtain ⟨p49, cs50, hat51, hrc52, hhas53⟩ := h0.at hg48.1 hg48.2 (by decide)
 obtain rfl := kd_api_Span_open hrc52
 refine Tn (.pointer (some p49)) 34 rfl rfl rfl hb47 (PO.indexAddr (n := a0.length) Tryd.underlying45 sz73 rfl rfl hg48.1 hg48.2 hat51) rfl ?_
 refine Tn (.pointer (some (p49.add 0))) 34 rfl rfl rfl hb47 (PO.fieldAddr fo73_0 rfl rfl) rfl ?_
 refine Tn (.int .i64 ((rd a0 (IntKind.i64.wrap (x23 - (1 : Int)))).Term)) 34 rfl rfl rfl hb47 (PO.loadM pl3 rfl (IM.has0 hhas53)) rfl ?_
 refine Tn (.pointer (some ⟨g33, 0, none⟩)) 34 rfl rfl rfl hb47 (PO.fieldAddr fo73_0 hs35_4 rfl) rfl ?_
 refine Tn (.int .i64 ((rd a0 x23).Term)) 34 rfl rfl rfl hb47 (PO.loadB 0 pl3 rfl rfl rfl) rfl ?_
 refine Tn (.bool (decide (((rd a0 x23).Term) ≤ ((rd a0 (IntKind.i64.wrap (x23 - (1 : Int)))).Term)))) 34 rfl rfl rfl hb47 (PO.geq rfl rfl) rfl ?_
 refine Tn (.bool (decide (((rd a0 x23).Term) ≤ ((rd a0 (IntKind.i64.wrap (x23 - (1 : Int)))).Term)))) 34 rfl rfl rfl hb47 (PO.move rfl) rfl ?_
 rcases Bool.eq_false_or_eq_true (decide (((rd a0 x23).Term) ≤ ((rd a0 (IntKind.i64.wrap (x23 - (1 : Int)))).Term))) with hb55 | hb55
 have h := ite_t hb55 h
 refine WT.pureOff 44 rfl rfl rfl hb55 rfl ?_
 refine WT.pureOff 44 rfl rfl rfl hb55 rfl ?_
 refine WT.pureOff 44 rfl rfl rfl hb55 rfl ?_
 refine WT.pureOff 44 rfl rfl rfl hb55 rfl ?_
 refine WT.pureOff 44 rfl rfl rfl hb55 rfl ?_
 refine WT.pureOff 44 rfl rfl rfl hb55 rfl ?_
 refine WT.pureOff 44 rfl rfl rfl hb55 rfl ?_
 refine WT.pureOff 44 rfl rfl rfl hb55 rfl ?_
 refine WT.pureOff 44 rfl rfl rfl hb55 rfl ?_
 refine Tn (.bool true) 34 rfl rfl rfl hb47 (PO.pickT rfl hb55 rfl) rfl ?_
 refine Tp (.bool true) rfl (PO.pickT rfl hb47 rfl) rfl ?_
 refine WT.fin ?_
 obtain rfl := Option.some.inj h
 refine WQ.thenJ ?_
 exact ⟨(IM.le.refl _), rfl, hs35_0, hs35_3, hs35_5, hs35_6, hs35_7, rfl⟩
 have h := ite_f hb55 h
 refine Tn v0 44 rfl rfl rfl hb55 (PO.move hs35_0) rfl ?_
 refine Tn (.int .i64 x23) 44 rfl rfl rfl hb55 (PO.move hs35_3) rfl ?_
 refine Tn (.int .i64 (IntKind.i64.wrap (x23 - (1 : Int)))) 44 rfl rfl rfl hb55 (PO.sub rfl rfl) rfl ?_
 obtain ⟨hg56, h⟩ := grd_i h
 obtain ⟨p57, cs58, hat59, hrc60, hhas61⟩ := h0.at hg56.1 hg56.2 (by decide)
 obtain rfl := kd_api_Span_open hrc60
 refine Tn (.pointer (some p57)) 44 rfl rfl rfl hb55 (PO.indexAddr (n := a0.length) Tryd.underlying45 sz73 rfl rfl hg56.1 hg56.2 hat59) rfl ?_
 refine Tn (.pointer (some (p57.add 1))) 44 rfl rfl rfl hb55 (PO.fieldAddr fo73_1 rfl rfl) rfl ?_
 refine Tn (.int .i64 ((rd a0 (IntKind.i64.wrap (x23 - (1 : Int)))).Start)) 44 rfl rfl rfl hb55 (PO.loadM pl3 rfl (hhas61 1 _ rfl)) rfl ?_
 refine Tn (.pointer (some ⟨g33, 1, none⟩)) 44 rfl rfl rfl hb55 (PO.fieldAddr fo73_1 hs35_4 rfl) rfl ?_
 refine Tn (.int .i64 ((rd a0 x23).Start)) 44 rfl rfl rfl hb55 (PO.loadB 0 pl3 rfl rfl rfl) rfl ?_
 refine Tn (.bool (decide (((rd a0 x23).Start) ≤ ((rd a0 (IntKind.i64.wrap (x23 - (1 : Int)))).Start)))) 44 rfl rfl rfl hb55 (PO.geq rfl rfl) rfl ?_
 refine Tn (.bool (decide (((rd a0 x23).Start) ≤ ((rd a0 (IntKind.i64.wrap (x23 - (1 : Int)))).Start)))) 34 rfl rfl rfl hb47 (PO.pickF rfl hb55 rfl) rfl ?_
 refine Tp (.bool (decide (((rd a0 x23).Start) ≤ ((rd a0 (IntKind.i64.wrap (x23 - (1 : Int)))).Start)))) rfl (PO.pickT rfl hb47 rfl) rfl ?_
 refine WT.fin ?_
 obtain rfl := Option.some.inj h
 refine WQ.thenJ ?_
 exact ⟨(IM.le.refl _), rfl, hs35_0, hs35_3, hs35_5, hs35_6, hs35_7, rfl⟩
 have h := ite_f hb47 h
 refine WT.pureOff 34 rfl rfl rfl hb47 rfl ?_
 refine WT.pureOff 34 rfl rfl rfl hb47 rfl ?_
 refine WT.pureOff 34 rfl rfl rfl hb47 rfl ?_
 refine WT.pureOff 34 rfl rfl rfl hb47 rfl ?_
 refine WT.pureOff 34 rfl rfl rfl hb47 rfl ?_
 refine WT.pureOff 34 rfl rfl rfl hb47 rfl ?_
 refine WT.pureOff 34 rfl rfl rfl hb47 rfl ?_
 refine WT.pureOff 34 rfl rfl rfl hb47 rfl ?_
 refine WT.pureOff 34 rfl rfl rfl hb47 rfl ?_
 refine WT.pureOff 34 rfl rfl rfl hb47 rfl ?_
 refine WT.pureOffU 44 rfl rfl rfl  rfl ?_
 refine WT.pureOffU 44 rfl rfl rfl  rfl ?_
 refine WT.pureOffU 44 rfl rfl rfl  rfl ?_
 refine WT.pureOffU 44 rfl rfl rfl  rfl ?_
 refine WT.pureOffU 44 rfl rfl rfl  rfl ?_
 refine WT.pureOffU 44 rfl rfl rfl  rfl ?_
 refine WT.pureOffU 44 rfl rfl rfl  rfl ?_
 refine WT.pureOffU 44 rfl rfl rfl  rfl ?_
 refine WT.pureOffU 44 rfl rfl rfl  rfl ?_
 refine WT.pureOff 34 rfl rfl rfl hb47 rfl ?_
 refine Tp (.bool false) rfl (PO.pickF rfl hb47 rfl) rfl ?_
 refine WT.fin ?_
 obtain rfl := Option.some.inj h
 refine WQ.thenJ ?_
 exact ⟨(IM.le.refl _), rfl, hs35_0, hs35_3, hs35_5, hs35_6, hs35_7, rfl⟩
 rintro ρ46 M46 H46 ⟨hle46, rfl, hs46_0, hs46_3, hs46_5, hs46_6, hs46_7, hs46_55⟩
 have h0 := h0.mono hle46
 refine WC.cond (b := x45) hs46_55 (fun hb63 => ?_) (fun hb63 => ?_)
 have h := ite_t hb63 h
 refine Sr ?_
 refine Pm (.int .i64 x23) hs46_3 rfl ?_
 obtain ⟨r64, hr65, h⟩ := bnd h
 refine WL.eff (EO.call0 co29 (f_fault_New_ok (⟨#[115, 112, 97, 110]⟩ : ByteArray) x23 (10 : Int) _ r64 hr65) (args3 rfl rfl rfl)) rfl ?_
 rintro _ M66 _ hle67 ⟨_, ⟨rfl, rfl⟩, rfl⟩
 have h0 := h0.mono hle67
 refine WL.a0 ?_
 refine Pa (GV r64) rfl rfl ?_
 refine Nt ?_
 refine WC.ret ?_
 refine WQ.blockR ?_
 refine WQ.thenR ?_
 refine WQ.leaveR (Sum.inr r64) (Option.some.inj h).symm (fun heq22 => ?_)
 subst heq22
 have h := (elimR hK22)
 refine WQ.blockR ?_
 refine WQ.thenR ?_
 have h := KK.early h h321
 refine WQ.drop ?_
 exact WQ.returnsF h [] rfl (results1 rfl rfl) (((hle22.trans hle35).trans hle46).trans hle67) ⟨rfl, rfl⟩
 have h := ite_f hb63 h
 refine WC.skip ?_
 refine WQ.blockN ?_
 refine WQ.thenC ?_
 refine WC.region ?_
 refine Pu (.int .i64 (IntKind.i64.wrap (x23 + (1 : Int)))) (PO.add hs46_7 rfl) rfl ?_
 refine Pm (.int .i64 (IntKind.i64.wrap (x23 + (1 : Int)))) rfl rfl ?_
 refine WL.nil ?_
 refine WQ.drop ?_
 refine WQ.again (IntKind.i64.wrap (x23 + (1 : Int))) (Option.some.inj h).symm ?_
 exact ⟨((hle22.trans hle35).trans hle46), rfl, hs46_0, hs46_5, hs46_6, rfl⟩
 have h := ite_f hb25 h
 refine WC.exit ?_
 refine WQ.thenE ?_
 refine WQ.leaveE (Sum.inl ()) (Option.some.inj h).symm (fun heq22 => ?_)
 subst heq22
 have h := elimL hK22
 refine WQ.blockH ?_
 refine WQ.thenFE h ?_
 exact ⟨hle22, rfl⟩
 rintro _ ρ21 M21 H21 rfl ⟨hle21, rfl⟩
 refine Sr ?_
 refine Pa (GV GErr.nil) rfl rfl ?_
 refine Nt ?_
 refine WC.ret ?_
 exact WQ.returnsF h [] rfl (results1 rfl rfl) hle21 ⟨rfl, rfl⟩

noncomputable def f_law13_works : Option Bool :=
  ((f_spans_EndOf [(⟨(0 : Int), (0 : Int)⟩ : T_api_Span), (⟨(1 : Int), (3 : Int)⟩ : T_api_Span), (⟨(4 : Int), (7 : Int)⟩ : T_api_Span)] (3 : Int) (9 : Int)).bind fun (r24, r25, r26) => ((f_spans_Parted [(⟨(0 : Int), (0 : Int)⟩ : T_api_Span), (⟨(1 : Int), (3 : Int)⟩ : T_api_Span), (⟨(4 : Int), (7 : Int)⟩ : T_api_Span)] (9 : Int) (3 : Int) (6 : Int)).bind fun (r36, r37, r38) => ((f_spans_Parted [(⟨(0 : Int), (0 : Int)⟩ : T_api_Span), (⟨(1 : Int), (3 : Int)⟩ : T_api_Span), (⟨(4 : Int), (7 : Int)⟩ : T_api_Span)] (9 : Int) (4 : Int) (9 : Int)).bind fun (r48, r49, r50) => ((f_spans_EndOf [] (3 : Int) (9 : Int)).bind fun (r60, r61, r62) => (((if (decide (r24 = (1 : Int))) = true then (if (decide (r25 = (7 : Int))) = true then (if r26 = true then (if (decide (r36 = (1 : Int))) = true then (if (decide (r37 = (7 : Int))) = true then (if r38 = true then (if (!r50) = true then (if (!r62) = true then ((f_spans_Keep [(⟨(0 : Int), (0 : Int)⟩ : T_api_Span), (⟨(1 : Int), (3 : Int)⟩ : T_api_Span), (⟨(4 : Int), (7 : Int)⟩ : T_api_Span)] (9 : Int) (1 : Int) (5 : Int)).bind fun (r79 : Int) => (if (decide (r79 = (5 : Int))) = true then ((f_spans_Keep [(⟨(0 : Int), (0 : Int)⟩ : T_api_Span), (⟨(1 : Int), (3 : Int)⟩ : T_api_Span), (⟨(4 : Int), (7 : Int)⟩ : T_api_Span)] (9 : Int) (2 : Int) (5 : Int)).bind fun (r88 : Int) => (if (decide (r88 = (7 : Int))) = true then ((f_spans_Add [(⟨(0 : Int), (0 : Int)⟩ : T_api_Span), (⟨(1 : Int), (3 : Int)⟩ : T_api_Span), (⟨(4 : Int), (7 : Int)⟩ : T_api_Span)] (5 : Int) (9 : Int)).bind fun (r97 : (List T_api_Span)) => (if (decide ((r97.length : Int) = (4 : Int))) = true then ((f_spans_Add [(⟨(0 : Int), (0 : Int)⟩ : T_api_Span), (⟨(1 : Int), (3 : Int)⟩ : T_api_Span), (⟨(4 : Int), (7 : Int)⟩ : T_api_Span)] (4 : Int) (9 : Int)).bind fun (r106 : (List T_api_Span)) => (if (decide ((r106.length : Int) = (3 : Int))) = true then ((f_spans_Check [(⟨(0 : Int), (0 : Int)⟩ : T_api_Span), (⟨(1 : Int), (3 : Int)⟩ : T_api_Span), (⟨(4 : Int), (7 : Int)⟩ : T_api_Span)]).bind fun (r115 : GErr) => (some r115.isNil)) else (some false))) else (some false))) else (some false))) else (some false))) else (some false)) else (some false)) else (some false)) else (some false)) else (some false)) else (some false)) else (some false)) else (some false)) : Option Bool).bind fun (x69 : Bool) => (some x69))))))
def f_law13_works_post : Bool → Value → IM → HL → Prop :=
  fun (r0 : Bool) (v : Value) (M' : IM) (H' : HL) => (.bool r0) = v ∧ H' = []
set_option maxHeartbeats 1000000 in
set_option maxRecDepth 100000 in
theorem f_law13_works_ok (M : IM) (res : Bool) (h : f_law13_works = some res) :
    Tri Tryd.prog 19 #[] M [] (f_law13_works_post res) := by
 unfold f_law13_works at h
 refine Tri.enter (fn := Tryd.f19) Tryd.func19 rfl (Nat.le_of_ble_eq_true rfl) ?_
 intro F ρ hρ
 refine Sr ?_
 refine Pa (.bool false) rfl rfl ?_
 refine Ns ?_
 refine Pu (.agg #[(.int .i64 (0 : Int)), (.int .i64 (0 : Int))]) (PO.buildL (cl := [(.int .i64 (0 : Int)), (.int .i64 (0 : Int))]) ze73 fp73 (Parts.cons (congrArg Value.cells (show ev _ _ = (.int .i64 (0 : Int)) from rfl)) (Parts.cons (congrArg Value.cells (show ev _ _ = (.int .i64 (0 : Int)) from rfl)) Parts.nil)) rfl) rfl ?_
 refine Pu (.agg #[(.int .i64 (1 : Int)), (.int .i64 (3 : Int))]) (PO.buildL (cl := [(.int .i64 (1 : Int)), (.int .i64 (3 : Int))]) ze73 fp73 (Parts.cons (congrArg Value.cells (show ev _ _ = (.int .i64 (1 : Int)) from rfl)) (Parts.cons (congrArg Value.cells (show ev _ _ = (.int .i64 (3 : Int)) from rfl)) Parts.nil)) rfl) rfl ?_
 refine Pu (.agg #[(.int .i64 (4 : Int)), (.int .i64 (7 : Int))]) (PO.buildL (cl := [(.int .i64 (4 : Int)), (.int .i64 (7 : Int))]) ze73 fp73 (Parts.cons (congrArg Value.cells (show ev _ _ = (.int .i64 (4 : Int)) from rfl)) (Parts.cons (congrArg Value.cells (show ev _ _ = (.int .i64 (7 : Int)) from rfl)) Parts.nil)) rfl) rfl ?_
 refine WL.eff (EO.buildSliceL (cl := [(.int .i64 (0 : Int)), (.int .i64 (0 : Int)), (.int .i64 (1 : Int)), (.int .i64 (3 : Int)), (.int .i64 (4 : Int)), (.int .i64 (7 : Int))]) Tryd.underlying45 iz73 rfl (Parts.cons (congrArg Value.cells (show ev _ _ = (.agg #[(.int .i64 (0 : Int)), (.int .i64 (0 : Int))]) from rfl)) (Parts.cons (congrArg Value.cells (show ev _ _ = (.agg #[(.int .i64 (1 : Int)), (.int .i64 (3 : Int))]) from rfl)) (Parts.cons (congrArg Value.cells (show ev _ _ = (.agg #[(.int .i64 (4 : Int)), (.int .i64 (7 : Int))]) from rfl)) Parts.nil))) rfl) rfl ?_
 rintro _ _ _ - ⟨rfl, g21, rfl, rfl⟩
 have h23 : OwnS kd_api_Span M (.slice (some ⟨g21, 0, none⟩) 3 3) [(⟨(0 : Int), (0 : Int)⟩ : T_api_Span), (⟨(1 : Int), (3 : Int)⟩ : T_api_Span), (⟨(4 : Int), (7 : Int)⟩ : T_api_Span)] [(g21, .cells #[(.int .i64 (0 : Int)), (.int .i64 (0 : Int)), (.int .i64 (1 : Int)), (.int .i64 (3 : Int)), (.int .i64 (4 : Int)), (.int .i64 (7 : Int))] 73 (0, 0))] := OwnS.rows (css := [[(.int .i64 (0 : Int)), (.int .i64 (0 : Int))], [(.int .i64 (1 : Int)), (.int .i64 (3 : Int))], [(.int .i64 (4 : Int)), (.int .i64 (7 : Int))]]) (Rows.cons (kd_api_Span_mk (x := (⟨(0 : Int), (0 : Int)⟩ : T_api_Span))) (Rows.cons (kd_api_Span_mk (x := (⟨(1 : Int), (3 : Int)⟩ : T_api_Span))) (Rows.cons (kd_api_Span_mk (x := (⟨(4 : Int), (7 : Int)⟩ : T_api_Span))) Rows.nil))) rfl rfl
 refine Pa (.slice (some ⟨g21, 0, none⟩) 3 3) rfl rfl ?_
 refine Ns ?_
 refine Pm (.slice (some ⟨g21, 0, none⟩) 3 3) rfl rfl ?_
 obtain ⟨⟨r24, r25, r26⟩, hr27, h⟩ := bnd h
 refine WL.eff (EO.call1 co37 (Tri.lend fun w0_ H0_ hs0_ => (f_spans_EndOf_ok [(⟨(0 : Int), (0 : Int)⟩ : T_api_Span), (⟨(1 : Int), (3 : Int)⟩ : T_api_Span), (⟨(4 : Int), (7 : Int)⟩ : T_api_Span)] (3 : Int) (9 : Int) _ _ (h23.rs hs0_) (r24, r25, r26) hr27)) (args3 rfl rfl rfl)) rfl ?_
 rintro _ _ _ hle29 ⟨_, ⟨Ml33, Hl34, hll35, rfl, rfl, ⟨rfl, rfl⟩⟩, rfl⟩
 have h23 := h23.mono hle29
 refine WL.a1 ?_
 refine Pm (.tuple #[(.int .i64 r24), (.int .i64 r25), (.bool r26)]) rfl rfl ?_
 refine Pu (.int .i64 r24) (PO.extract rfl rfl) rfl ?_
 refine Pu (.int .i64 r25) (PO.extract rfl rfl) rfl ?_
 refine Pu (.bool r26) (PO.extract rfl rfl) rfl ?_
 refine Pa (.int .i64 r24) rfl rfl ?_
 refine Pa (.int .i64 r25) rfl rfl ?_
 refine Pa (.bool r26) rfl rfl ?_
 refine Ns ?_
 refine Pm (.slice (some ⟨g21, 0, none⟩) 3 3) rfl rfl ?_
 obtain ⟨⟨r36, r37, r38⟩, hr39, h⟩ := bnd h
 refine WL.eff (EO.call1 co38 (Tri.lend fun w0_ H0_ hs0_ => (f_spans_Parted_ok [(⟨(0 : Int), (0 : Int)⟩ : T_api_Span), (⟨(1 : Int), (3 : Int)⟩ : T_api_Span), (⟨(4 : Int), (7 : Int)⟩ : T_api_Span)] (9 : Int) (3 : Int) (6 : Int) _ _ (h23.rs hs0_) (r36, r37, r38) hr39)) (args4 rfl rfl rfl rfl)) rfl ?_
 rintro _ _ _ hle41 ⟨_, ⟨Ml45, Hl46, hll47, rfl, rfl, ⟨rfl, rfl⟩⟩, rfl⟩
 have h23 := h23.mono hle41
 refine WL.a1 ?_
 refine Pm (.tuple #[(.int .i64 r36), (.int .i64 r37), (.bool r38)]) rfl rfl ?_
 refine Pu (.int .i64 r36) (PO.extract rfl rfl) rfl ?_
 refine Pu (.int .i64 r37) (PO.extract rfl rfl) rfl ?_
 refine Pu (.bool r38) (PO.extract rfl rfl) rfl ?_
 refine Pa (.int .i64 r36) rfl rfl ?_
 refine Pa (.int .i64 r37) rfl rfl ?_
 refine Pa (.bool r38) rfl rfl ?_
 refine Ns ?_
 refine Pm (.slice (some ⟨g21, 0, none⟩) 3 3) rfl rfl ?_
 obtain ⟨⟨r48, r49, r50⟩, hr51, h⟩ := bnd h
 refine WL.eff (EO.call1 co38 (Tri.lend fun w0_ H0_ hs0_ => (f_spans_Parted_ok [(⟨(0 : Int), (0 : Int)⟩ : T_api_Span), (⟨(1 : Int), (3 : Int)⟩ : T_api_Span), (⟨(4 : Int), (7 : Int)⟩ : T_api_Span)] (9 : Int) (4 : Int) (9 : Int) _ _ (h23.rs hs0_) (r48, r49, r50) hr51)) (args4 rfl rfl rfl rfl)) rfl ?_
 rintro _ _ _ hle53 ⟨_, ⟨Ml57, Hl58, hll59, rfl, rfl, ⟨rfl, rfl⟩⟩, rfl⟩
 have h23 := h23.mono hle53
 refine WL.a1 ?_
 refine Pm (.tuple #[(.int .i64 r48), (.int .i64 r49), (.bool r50)]) rfl rfl ?_
 refine Pu (.int .i64 r48) (PO.extract rfl rfl) rfl ?_
 refine Pu (.int .i64 r49) (PO.extract rfl rfl) rfl ?_
 refine Pu (.bool r50) (PO.extract rfl rfl) rfl ?_
 refine Pa (.int .i64 r48) rfl rfl ?_
 refine Pa (.int .i64 r49) rfl rfl ?_
 refine Pa (.bool r50) rfl rfl ?_
 refine Ns ?_
 obtain ⟨⟨r60, r61, r62⟩, hr63, h⟩ := bnd h
 refine WL.eff (EO.call0 co37 (f_spans_EndOf_ok [] (3 : Int) (9 : Int) _ _ (RS.nil _ _) (r60, r61, r62) hr63) (args3 rfl rfl rfl)) rfl ?_
 rintro _ M64 _ hle65 ⟨_, ⟨rfl, rfl⟩, rfl⟩
 have h23 := h23.mono hle65
 refine WL.a0 ?_
 refine Pm (.tuple #[(.int .i64 r60), (.int .i64 r61), (.bool r62)]) rfl rfl ?_
 refine Pu (.int .i64 r60) (PO.extract rfl rfl) rfl ?_
 refine Pu (.int .i64 r61) (PO.extract rfl rfl) rfl ?_
 refine Pu (.bool r62) (PO.extract rfl rfl) rfl ?_
 refine Pa (.int .i64 r60) rfl rfl ?_
 refine Pa (.int .i64 r61) rfl rfl ?_
 refine Pa (.bool r62) rfl rfl ?_
 refine Nt ?_
 obtain ⟨x69, hj70, h⟩ := bnd h
 refine WC.joinF (fun (x69 : Bool) ρ' M' H' => M64.le M' ∧ F = H' ∧ ρ' 0 = (.bool x69)) x69 ?_ ?_
 have h370 := h
 have h := hj70
 refine WC.region ?_
 refine Pm (.int .i64 r24) rfl rfl ?_
 refine Pu (.bool (decide (r24 = (1 : Int)))) (PO.eql rfl rfl) rfl ?_
 refine Pm (.bool (decide (r24 = (1 : Int)))) rfl rfl ?_
 rcases Bool.eq_false_or_eq_true (decide (r24 = (1 : Int))) with hb71 | hb71
 have h := ite_t hb71 h
 refine On 43 rfl rfl hb71 ?_
 refine Pm (.int .i64 r25) rfl rfl ?_
 refine On 43 rfl rfl hb71 ?_
 refine Pu (.bool (decide (r25 = (7 : Int)))) (PO.eql rfl rfl) rfl ?_
 refine Pu (.bool (decide (r25 = (7 : Int)))) (PO.pickT rfl hb71 rfl) rfl ?_
 refine Pm (.bool (decide (r25 = (7 : Int)))) rfl rfl ?_
 rcases Bool.eq_false_or_eq_true (decide (r25 = (7 : Int))) with hb72 | hb72
 have h := ite_t hb72 h
 refine On 47 rfl rfl hb72 ?_
 refine Pm (.bool r26) rfl rfl ?_
 refine Pu (.bool r26) (PO.pickT rfl hb72 rfl) rfl ?_
 refine Pm (.bool r26) rfl rfl ?_
 rcases Bool.eq_false_or_eq_true (r26) with hb73 | hb73
 have h := ite_t hb73 h
 refine On 50 rfl rfl hb73 ?_
 refine Pm (.int .i64 r36) rfl rfl ?_
 refine On 50 rfl rfl hb73 ?_
 refine Pu (.bool (decide (r36 = (1 : Int)))) (PO.eql rfl rfl) rfl ?_
 refine Pu (.bool (decide (r36 = (1 : Int)))) (PO.pickT rfl hb73 rfl) rfl ?_
 refine Pm (.bool (decide (r36 = (1 : Int)))) rfl rfl ?_
 rcases Bool.eq_false_or_eq_true (decide (r36 = (1 : Int))) with hb74 | hb74
 have h := ite_t hb74 h
 refine On 54 rfl rfl hb74 ?_
 refine Pm (.int .i64 r37) rfl rfl ?_
 refine On 54 rfl rfl hb74 ?_
 refine Pu (.bool (decide (r37 = (7 : Int)))) (PO.eql rfl rfl) rfl ?_
 refine Pu (.bool (decide (r37 = (7 : Int)))) (PO.pickT rfl hb74 rfl) rfl ?_
 refine Pm (.bool (decide (r37 = (7 : Int)))) rfl rfl ?_
 rcases Bool.eq_false_or_eq_true (decide (r37 = (7 : Int))) with hb75 | hb75
 have h := ite_t hb75 h
 refine On 58 rfl rfl hb75 ?_
 refine Pm (.bool r38) rfl rfl ?_
 refine Pu (.bool r38) (PO.pickT rfl hb75 rfl) rfl ?_
 refine Pm (.bool r38) rfl rfl ?_
 rcases Bool.eq_false_or_eq_true (r38) with hb76 | hb76
 have h := ite_t hb76 h
 refine On 61 rfl rfl hb76 ?_
 refine Pm (.bool r50) rfl rfl ?_
 refine On 61 rfl rfl hb76 ?_
 refine Pu (.bool (!r50)) (PO.not rfl) rfl ?_
 refine Pu (.bool (!r50)) (PO.pickT rfl hb76 rfl) rfl ?_
 refine Pm (.bool (!r50)) rfl rfl ?_
 rcases Bool.eq_false_or_eq_true (!r50) with hb77 | hb77
 have h := ite_t hb77 h
 refine On 65 rfl rfl hb77 ?_
 refine Pm (.bool r62) rfl rfl ?_
 refine On 65 rfl rfl hb77 ?_
 refine Pu (.bool (!r62)) (PO.not rfl) rfl ?_
 refine Pu (.bool (!r62)) (PO.pickT rfl hb77 rfl) rfl ?_
 refine Pm (.bool (!r62)) rfl rfl ?_
 rcases Bool.eq_false_or_eq_true (!r62) with hb78 | hb78
 have h := ite_t hb78 h
 refine On 69 rfl rfl hb78 ?_
 refine Pm (.slice (some ⟨g21, 0, none⟩) 3 3) rfl rfl ?_
 refine On 69 rfl rfl hb78 ?_
 obtain ⟨r79, hr80, h⟩ := bnd h
 refine WL.eff (EO.call1 co39 (Tri.lend fun w0_ H0_ hs0_ => (f_spans_Keep_ok [(⟨(0 : Int), (0 : Int)⟩ : T_api_Span), (⟨(1 : Int), (3 : Int)⟩ : T_api_Span), (⟨(4 : Int), (7 : Int)⟩ : T_api_Span)] (9 : Int) (1 : Int) (5 : Int) _ _ (h23.rs hs0_) r79 hr80)) (args4 rfl rfl rfl rfl)) rfl ?_
 rintro _ _ _ hle82 ⟨_, ⟨Ml84, Hl85, hll86, rfl, rfl, ⟨rfl, rfl⟩⟩, rfl⟩
 have h23 := h23.mono hle82
 refine WL.a1 ?_
 refine On 69 rfl rfl hb78 ?_
 refine Pu (.bool (decide (r79 = (5 : Int)))) (PO.eql rfl rfl) rfl ?_
 refine Pu (.bool (decide (r79 = (5 : Int)))) (PO.pickT rfl hb78 rfl) rfl ?_
 refine Pm (.bool (decide (r79 = (5 : Int)))) rfl rfl ?_
 rcases Bool.eq_false_or_eq_true (decide (r79 = (5 : Int))) with hb87 | hb87
 have h := ite_t hb87 h
 refine On 74 rfl rfl hb87 ?_
 refine Pm (.slice (some ⟨g21, 0, none⟩) 3 3) rfl rfl ?_
 refine On 74 rfl rfl hb87 ?_
 obtain ⟨r88, hr89, h⟩ := bnd h
 refine WL.eff (EO.call1 co39 (Tri.lend fun w0_ H0_ hs0_ => (f_spans_Keep_ok [(⟨(0 : Int), (0 : Int)⟩ : T_api_Span), (⟨(1 : Int), (3 : Int)⟩ : T_api_Span), (⟨(4 : Int), (7 : Int)⟩ : T_api_Span)] (9 : Int) (2 : Int) (5 : Int) _ _ (h23.rs hs0_) r88 hr89)) (args4 rfl rfl rfl rfl)) rfl ?_
 rintro _ _ _ hle91 ⟨_, ⟨Ml93, Hl94, hll95, rfl, rfl, ⟨rfl, rfl⟩⟩, rfl⟩
 have h23 := h23.mono hle91
 refine WL.a1 ?_
 refine On 74 rfl rfl hb87 ?_
 refine Pu (.bool (decide (r88 = (7 : Int)))) (PO.eql rfl rfl) rfl ?_
 refine Pu (.bool (decide (r88 = (7 : Int)))) (PO.pickT rfl hb87 rfl) rfl ?_
 refine Pm (.bool (decide (r88 = (7 : Int)))) rfl rfl ?_
 rcases Bool.eq_false_or_eq_true (decide (r88 = (7 : Int))) with hb96 | hb96
 have h := ite_t hb96 h
 refine On 79 rfl rfl hb96 ?_
 refine Pm (.slice (some ⟨g21, 0, none⟩) 3 3) rfl rfl ?_
 refine On 79 rfl rfl hb96 ?_
 obtain ⟨r97, hr98, h⟩ := bnd h
 refine WL.eff (EO.call1 co24 (Tri.lend fun w0_ H0_ hs0_ => (f_spans_Add_ok [(⟨(0 : Int), (0 : Int)⟩ : T_api_Span), (⟨(1 : Int), (3 : Int)⟩ : T_api_Span), (⟨(4 : Int), (7 : Int)⟩ : T_api_Span)] (5 : Int) (9 : Int) _ _ (h23.rs hs0_) r97 hr98)) (args3 rfl rfl rfl)) rfl ?_
 rintro _ _ _ hle100 ⟨_, ⟨Ml102, Hl103, hll104, rfl, rfl, ⟨vq101, cq101, rfl, rfl, hq101⟩⟩, rfl⟩
 have h23 := h23.mono hle100
 have hq101 : OwnS kd_api_Span (Ml102.minus [(g21, .cells #[(.int .i64 (0 : Int)), (.int .i64 (0 : Int)), (.int .i64 (1 : Int)), (.int .i64 (3 : Int)), (.int .i64 (4 : Int)), (.int .i64 (7 : Int))] 73 (0, 0))]) vq101 r97 cq101 := hq101.any kd_api_Span_flat
 refine WL.a2 ?_
 refine On 79 rfl rfl hb96 ?_
 refine Pu (.int .i64 (r97.length : Int)) (PO.lenS Tryd.underlying45 rfl hq101.len) rfl ?_
 refine On 79 rfl rfl hb96 ?_
 refine Pu (.bool (decide ((r97.length : Int) = (4 : Int)))) (PO.eql rfl rfl) rfl ?_
 refine Pu (.bool (decide ((r97.length : Int) = (4 : Int)))) (PO.pickT rfl hb96 rfl) rfl ?_
 refine Pm (.bool (decide ((r97.length : Int) = (4 : Int)))) rfl rfl ?_
 rcases Bool.eq_false_or_eq_true (decide ((r97.length : Int) = (4 : Int))) with hb105 | hb105
 have h := ite_t hb105 h
 refine On 85 rfl rfl hb105 ?_
 refine Pm (.slice (some ⟨g21, 0, none⟩) 3 3) rfl rfl ?_
 refine On 85 rfl rfl hb105 ?_
 obtain ⟨r106, hr107, h⟩ := bnd h
 refine WL.eff (EO.call1 co24 (Tri.lend fun w0_ H0_ hs0_ => (f_spans_Add_ok [(⟨(0 : Int), (0 : Int)⟩ : T_api_Span), (⟨(1 : Int), (3 : Int)⟩ : T_api_Span), (⟨(4 : Int), (7 : Int)⟩ : T_api_Span)] (4 : Int) (9 : Int) _ _ (h23.rs hs0_) r106 hr107)) (args3 rfl rfl rfl)) rfl ?_
 rintro _ _ _ hle109 ⟨_, ⟨Ml111, Hl112, hll113, rfl, rfl, ⟨vq110, cq110, rfl, rfl, hq110⟩⟩, rfl⟩
 have h23 := h23.mono hle109
 have hq101 := hq101.mono hle109
 have hq110 : OwnS kd_api_Span (Ml111.minus [(g21, .cells #[(.int .i64 (0 : Int)), (.int .i64 (0 : Int)), (.int .i64 (1 : Int)), (.int .i64 (3 : Int)), (.int .i64 (4 : Int)), (.int .i64 (7 : Int))] 73 (0, 0))]) vq110 r106 cq110 := hq110.any kd_api_Span_flat
 refine WL.a2 ?_
 refine On 85 rfl rfl hb105 ?_
 refine Pu (.int .i64 (r106.length : Int)) (PO.lenS Tryd.underlying45 rfl hq110.len) rfl ?_
 refine On 85 rfl rfl hb105 ?_
 refine Pu (.bool (decide ((r106.length : Int) = (3 : Int)))) (PO.eql rfl rfl) rfl ?_
 refine Pu (.bool (decide ((r106.length : Int) = (3 : Int)))) (PO.pickT rfl hb105 rfl) rfl ?_
 refine Pm (.bool (decide ((r106.length : Int) = (3 : Int)))) rfl rfl ?_
 rcases Bool.eq_false_or_eq_true (decide ((r106.length : Int) = (3 : Int))) with hb114 | hb114
 have h := ite_t hb114 h
 refine On 91 rfl rfl hb114 ?_
 refine Pm (.slice (some ⟨g21, 0, none⟩) 3 3) rfl rfl ?_
 refine On 91 rfl rfl hb114 ?_
 obtain ⟨r115, hr116, h⟩ := bnd h
 refine WL.eff (EO.call1 co20 (Tri.lend fun w0_ H0_ hs0_ => (f_spans_Check_ok [(⟨(0 : Int), (0 : Int)⟩ : T_api_Span), (⟨(1 : Int), (3 : Int)⟩ : T_api_Span), (⟨(4 : Int), (7 : Int)⟩ : T_api_Span)] _ _ (h23.rs hs0_) r115 hr116)) (args1 rfl)) rfl ?_
 rintro _ _ _ hle118 ⟨_, ⟨Ml120, Hl121, hll122, rfl, rfl, ⟨rfl, rfl⟩⟩, rfl⟩
 have h23 := h23.mono hle118
 have hq101 := hq101.mono hle118
 have hq110 := hq110.mono hle118
 refine WL.a1 ?_
 refine On 91 rfl rfl hb114 ?_
 refine Pu (.bool r115.isNil) (PO.errNil Tryd.underlying28 rfl) rfl ?_
 refine Pu (.bool r115.isNil) (PO.pickT rfl hb114 rfl) rfl ?_
 refine Pa (.bool r115.isNil) rfl rfl ?_
 refine WL.nil ?_
 refine WQ.drop ?_
 refine WQ.drop ?_
 refine WQ.drop ?_
 obtain rfl := Option.some.inj h
 refine WQ.thenJ ?_
 exact ⟨((((hle82.trans hle91).trans hle100).trans hle109).trans hle118), rfl, rfl⟩
 have h := ite_f hb114 h
 iterate 3 refine Of 91 rfl rfl hb114 rfl ?_
 refine Pu (.bool false) (PO.pickF rfl hb114 rfl) rfl ?_
 refine Pa (.bool false) rfl rfl ?_
 refine WL.nil ?_
 refine WQ.drop ?_
 refine WQ.drop ?_
 refine WQ.drop ?_
 obtain rfl := Option.some.inj h
 refine WQ.thenJ ?_
 exact ⟨(((hle82.trans hle91).trans hle100).trans hle109), rfl, rfl⟩
 have h := ite_f hb105 h
 iterate 4 refine Of 85 rfl rfl hb105 rfl ?_
 refine Pu (.bool false) (PO.pickF rfl hb105 rfl) rfl ?_
 refine Pm (.bool false) rfl rfl ?_
 iterate 3 refine Of 91 rfl rfl rfl rfl ?_
 refine Pu (.bool false) (PO.pickF rfl rfl rfl) rfl ?_
 refine Pa (.bool false) rfl rfl ?_
 refine WL.nil ?_
 refine WQ.drop ?_
 refine WQ.drop ?_
 obtain rfl := Option.some.inj h
 refine WQ.thenJ ?_
 exact ⟨((hle82.trans hle91).trans hle100), rfl, rfl⟩
 have h := ite_f hb96 h
 iterate 4 refine Of 79 rfl rfl hb96 rfl ?_
 refine Pu (.bool false) (PO.pickF rfl hb96 rfl) rfl ?_
 refine Pm (.bool false) rfl rfl ?_
 iterate 4 refine Of 85 rfl rfl rfl rfl ?_
 refine Pu (.bool false) (PO.pickF rfl rfl rfl) rfl ?_
 refine Pm (.bool false) rfl rfl ?_
 iterate 3 refine Of 91 rfl rfl rfl rfl ?_
 refine Pu (.bool false) (PO.pickF rfl rfl rfl) rfl ?_
 refine Pa (.bool false) rfl rfl ?_
 refine WL.nil ?_
 refine WQ.drop ?_
 obtain rfl := Option.some.inj h
 refine WQ.thenJ ?_
 exact ⟨(hle82.trans hle91), rfl, rfl⟩
 have h := ite_f hb87 h
 iterate 3 refine Of 74 rfl rfl hb87 rfl ?_
 refine Pu (.bool false) (PO.pickF rfl hb87 rfl) rfl ?_
 refine Pm (.bool false) rfl rfl ?_
 iterate 4 refine Of 79 rfl rfl rfl rfl ?_
 refine Pu (.bool false) (PO.pickF rfl rfl rfl) rfl ?_
 refine Pm (.bool false) rfl rfl ?_
 iterate 4 refine Of 85 rfl rfl rfl rfl ?_
 refine Pu (.bool false) (PO.pickF rfl rfl rfl) rfl ?_
 refine Pm (.bool false) rfl rfl ?_
 iterate 3 refine Of 91 rfl rfl rfl rfl ?_
 refine Pu (.bool false) (PO.pickF rfl rfl rfl) rfl ?_
 refine Pa (.bool false) rfl rfl ?_
 refine WL.nil ?_
 refine WQ.drop ?_
 obtain rfl := Option.some.inj h
 refine WQ.thenJ ?_
 exact ⟨hle82, rfl, rfl⟩
 have h := ite_f hb78 h
 iterate 3 refine Of 69 rfl rfl hb78 rfl ?_
 refine Pu (.bool false) (PO.pickF rfl hb78 rfl) rfl ?_
 refine Pm (.bool false) rfl rfl ?_
 iterate 3 refine Of 74 rfl rfl rfl rfl ?_
 refine Pu (.bool false) (PO.pickF rfl rfl rfl) rfl ?_
 refine Pm (.bool false) rfl rfl ?_
 iterate 4 refine Of 79 rfl rfl rfl rfl ?_
 refine Pu (.bool false) (PO.pickF rfl rfl rfl) rfl ?_
 refine Pm (.bool false) rfl rfl ?_
 iterate 4 refine Of 85 rfl rfl rfl rfl ?_
 refine Pu (.bool false) (PO.pickF rfl rfl rfl) rfl ?_
 refine Pm (.bool false) rfl rfl ?_
 iterate 3 refine Of 91 rfl rfl rfl rfl ?_
 refine Pu (.bool false) (PO.pickF rfl rfl rfl) rfl ?_
 refine Pa (.bool false) rfl rfl ?_
 refine WL.nil ?_
 refine WQ.drop ?_
 obtain rfl := Option.some.inj h
 refine WQ.thenJ ?_
 exact ⟨(IM.le.refl _), rfl, rfl⟩
 have h := ite_f hb77 h
 iterate 2 refine Of 65 rfl rfl hb77 rfl ?_
 refine Pu (.bool false) (PO.pickF rfl hb77 rfl) rfl ?_
 refine Pm (.bool false) rfl rfl ?_
 iterate 3 refine Of 69 rfl rfl rfl rfl ?_
 refine Pu (.bool false) (PO.pickF rfl rfl rfl) rfl ?_
 refine Pm (.bool false) rfl rfl ?_
 iterate 3 refine Of 74 rfl rfl rfl rfl ?_
 refine Pu (.bool false) (PO.pickF rfl rfl rfl) rfl ?_
 refine Pm (.bool false) rfl rfl ?_
 iterate 4 refine Of 79 rfl rfl rfl rfl ?_
 refine Pu (.bool false) (PO.pickF rfl rfl rfl) rfl ?_
 refine Pm (.bool false) rfl rfl ?_
 iterate 4 refine Of 85 rfl rfl rfl rfl ?_
 refine Pu (.bool false) (PO.pickF rfl rfl rfl) rfl ?_
 refine Pm (.bool false) rfl rfl ?_
 iterate 3 refine Of 91 rfl rfl rfl rfl ?_
 refine Pu (.bool false) (PO.pickF rfl rfl rfl) rfl ?_
 refine Pa (.bool false) rfl rfl ?_
 refine WL.nil ?_
 refine WQ.drop ?_
 obtain rfl := Option.some.inj h
 refine WQ.thenJ ?_
 exact ⟨(IM.le.refl _), rfl, rfl⟩
 have h := ite_f hb76 h
 iterate 2 refine Of 61 rfl rfl hb76 rfl ?_
 refine Pu (.bool false) (PO.pickF rfl hb76 rfl) rfl ?_
 refine Pm (.bool false) rfl rfl ?_
 iterate 2 refine Of 65 rfl rfl rfl rfl ?_
 refine Pu (.bool false) (PO.pickF rfl rfl rfl) rfl ?_
 refine Pm (.bool false) rfl rfl ?_
 iterate 3 refine Of 69 rfl rfl rfl rfl ?_
 refine Pu (.bool false) (PO.pickF rfl rfl rfl) rfl ?_
 refine Pm (.bool false) rfl rfl ?_
 iterate 3 refine Of 74 rfl rfl rfl rfl ?_
 refine Pu (.bool false) (PO.pickF rfl rfl rfl) rfl ?_
 refine Pm (.bool false) rfl rfl ?_
 iterate 4 refine Of 79 rfl rfl rfl rfl ?_
 refine Pu (.bool false) (PO.pickF rfl rfl rfl) rfl ?_
 refine Pm (.bool false) rfl rfl ?_
 iterate 4 refine Of 85 rfl rfl rfl rfl ?_
 refine Pu (.bool false) (PO.pickF rfl rfl rfl) rfl ?_
 refine Pm (.bool false) rfl rfl ?_
 iterate 3 refine Of 91 rfl rfl rfl rfl ?_
 refine Pu (.bool false) (PO.pickF rfl rfl rfl) rfl ?_
 refine Pa (.bool false) rfl rfl ?_
 refine WL.nil ?_
 refine WQ.drop ?_
 obtain rfl := Option.some.inj h
 refine WQ.thenJ ?_
 exact ⟨(IM.le.refl _), rfl, rfl⟩
 have h := ite_f hb75 h
 refine Of 58 rfl rfl hb75 rfl ?_
 refine Pu (.bool false) (PO.pickF rfl hb75 rfl) rfl ?_
 refine Pm (.bool false) rfl rfl ?_
 iterate 2 refine Of 61 rfl rfl rfl rfl ?_
 refine Pu (.bool false) (PO.pickF rfl rfl rfl) rfl ?_
 refine Pm (.bool false) rfl rfl ?_
 iterate 2 refine Of 65 rfl rfl rfl rfl ?_
 refine Pu (.bool false) (PO.pickF rfl rfl rfl) rfl ?_
 refine Pm (.bool false) rfl rfl ?_
 iterate 3 refine Of 69 rfl rfl rfl rfl ?_
 refine Pu (.bool false) (PO.pickF rfl rfl rfl) rfl ?_
 refine Pm (.bool false) rfl rfl ?_
 iterate 3 refine Of 74 rfl rfl rfl rfl ?_
 refine Pu (.bool false) (PO.pickF rfl rfl rfl) rfl ?_
 refine Pm (.bool false) rfl rfl ?_
 iterate 4 refine Of 79 rfl rfl rfl rfl ?_
 refine Pu (.bool false) (PO.pickF rfl rfl rfl) rfl ?_
 refine Pm (.bool false) rfl rfl ?_
 iterate 4 refine Of 85 rfl rfl rfl rfl ?_
 refine Pu (.bool false) (PO.pickF rfl rfl rfl) rfl ?_
 refine Pm (.bool false) rfl rfl ?_
 iterate 3 refine Of 91 rfl rfl rfl rfl ?_
 refine Pu (.bool false) (PO.pickF rfl rfl rfl) rfl ?_
 refine Pa (.bool false) rfl rfl ?_
 refine WL.nil ?_
 refine WQ.drop ?_
 obtain rfl := Option.some.inj h
 refine WQ.thenJ ?_
 exact ⟨(IM.le.refl _), rfl, rfl⟩
 have h := ite_f hb74 h
 iterate 2 refine Of 54 rfl rfl hb74 rfl ?_
 refine Pu (.bool false) (PO.pickF rfl hb74 rfl) rfl ?_
 refine Pm (.bool false) rfl rfl ?_
 refine Of 58 rfl rfl rfl rfl ?_
 refine Pu (.bool false) (PO.pickF rfl rfl rfl) rfl ?_
 refine Pm (.bool false) rfl rfl ?_
 iterate 2 refine Of 61 rfl rfl rfl rfl ?_
 refine Pu (.bool false) (PO.pickF rfl rfl rfl) rfl ?_
 refine Pm (.bool false) rfl rfl ?_
 iterate 2 refine Of 65 rfl rfl rfl rfl ?_
 refine Pu (.bool false) (PO.pickF rfl rfl rfl) rfl ?_
 refine Pm (.bool false) rfl rfl ?_
 iterate 3 refine Of 69 rfl rfl rfl rfl ?_
 refine Pu (.bool false) (PO.pickF rfl rfl rfl) rfl ?_
 refine Pm (.bool false) rfl rfl ?_
 iterate 3 refine Of 74 rfl rfl rfl rfl ?_
 refine Pu (.bool false) (PO.pickF rfl rfl rfl) rfl ?_
 refine Pm (.bool false) rfl rfl ?_
 iterate 4 refine Of 79 rfl rfl rfl rfl ?_
 refine Pu (.bool false) (PO.pickF rfl rfl rfl) rfl ?_
 refine Pm (.bool false) rfl rfl ?_
 iterate 4 refine Of 85 rfl rfl rfl rfl ?_
 refine Pu (.bool false) (PO.pickF rfl rfl rfl) rfl ?_
 refine Pm (.bool false) rfl rfl ?_
 iterate 3 refine Of 91 rfl rfl rfl rfl ?_
 refine Pu (.bool false) (PO.pickF rfl rfl rfl) rfl ?_
 refine Pa (.bool false) rfl rfl ?_
 refine WL.nil ?_
 refine WQ.drop ?_
 obtain rfl := Option.some.inj h
 refine WQ.thenJ ?_
 exact ⟨(IM.le.refl _), rfl, rfl⟩
 have h := ite_f hb73 h
 iterate 2 refine Of 50 rfl rfl hb73 rfl ?_
 refine Pu (.bool false) (PO.pickF rfl hb73 rfl) rfl ?_
 refine Pm (.bool false) rfl rfl ?_
 iterate 2 refine Of 54 rfl rfl rfl rfl ?_
 refine Pu (.bool false) (PO.pickF rfl rfl rfl) rfl ?_
 refine Pm (.bool false) rfl rfl ?_
 refine Of 58 rfl rfl rfl rfl ?_
 refine Pu (.bool false) (PO.pickF rfl rfl rfl) rfl ?_
 refine Pm (.bool false) rfl rfl ?_
 iterate 2 refine Of 61 rfl rfl rfl rfl ?_
 refine Pu (.bool false) (PO.pickF rfl rfl rfl) rfl ?_
 refine Pm (.bool false) rfl rfl ?_
 iterate 2 refine Of 65 rfl rfl rfl rfl ?_
 refine Pu (.bool false) (PO.pickF rfl rfl rfl) rfl ?_
 refine Pm (.bool false) rfl rfl ?_
 iterate 3 refine Of 69 rfl rfl rfl rfl ?_
 refine Pu (.bool false) (PO.pickF rfl rfl rfl) rfl ?_
 refine Pm (.bool false) rfl rfl ?_
 iterate 3 refine Of 74 rfl rfl rfl rfl ?_
 refine Pu (.bool false) (PO.pickF rfl rfl rfl) rfl ?_
 refine Pm (.bool false) rfl rfl ?_
 iterate 4 refine Of 79 rfl rfl rfl rfl ?_
 refine Pu (.bool false) (PO.pickF rfl rfl rfl) rfl ?_
 refine Pm (.bool false) rfl rfl ?_
 iterate 4 refine Of 85 rfl rfl rfl rfl ?_
 refine Pu (.bool false) (PO.pickF rfl rfl rfl) rfl ?_
 refine Pm (.bool false) rfl rfl ?_
 iterate 3 refine Of 91 rfl rfl rfl rfl ?_
 refine Pu (.bool false) (PO.pickF rfl rfl rfl) rfl ?_
 refine Pa (.bool false) rfl rfl ?_
 refine WL.nil ?_
 refine WQ.drop ?_
 obtain rfl := Option.some.inj h
 refine WQ.thenJ ?_
 exact ⟨(IM.le.refl _), rfl, rfl⟩
 have h := ite_f hb72 h
 refine Of 47 rfl rfl hb72 rfl ?_
 refine Pu (.bool false) (PO.pickF rfl hb72 rfl) rfl ?_
 refine Pm (.bool false) rfl rfl ?_
 iterate 2 refine Of 50 rfl rfl rfl rfl ?_
 refine Pu (.bool false) (PO.pickF rfl rfl rfl) rfl ?_
 refine Pm (.bool false) rfl rfl ?_
 iterate 2 refine Of 54 rfl rfl rfl rfl ?_
 refine Pu (.bool false) (PO.pickF rfl rfl rfl) rfl ?_
 refine Pm (.bool false) rfl rfl ?_
 refine Of 58 rfl rfl rfl rfl ?_
 refine Pu (.bool false) (PO.pickF rfl rfl rfl) rfl ?_
 refine Pm (.bool false) rfl rfl ?_
 iterate 2 refine Of 61 rfl rfl rfl rfl ?_
 refine Pu (.bool false) (PO.pickF rfl rfl rfl) rfl ?_
 refine Pm (.bool false) rfl rfl ?_
 iterate 2 refine Of 65 rfl rfl rfl rfl ?_
 refine Pu (.bool false) (PO.pickF rfl rfl rfl) rfl ?_
 refine Pm (.bool false) rfl rfl ?_
 iterate 3 refine Of 69 rfl rfl rfl rfl ?_
 refine Pu (.bool false) (PO.pickF rfl rfl rfl) rfl ?_
 refine Pm (.bool false) rfl rfl ?_
 iterate 3 refine Of 74 rfl rfl rfl rfl ?_
 refine Pu (.bool false) (PO.pickF rfl rfl rfl) rfl ?_
 refine Pm (.bool false) rfl rfl ?_
 iterate 4 refine Of 79 rfl rfl rfl rfl ?_
 refine Pu (.bool false) (PO.pickF rfl rfl rfl) rfl ?_
 refine Pm (.bool false) rfl rfl ?_
 iterate 4 refine Of 85 rfl rfl rfl rfl ?_
 refine Pu (.bool false) (PO.pickF rfl rfl rfl) rfl ?_
 refine Pm (.bool false) rfl rfl ?_
 iterate 3 refine Of 91 rfl rfl rfl rfl ?_
 refine Pu (.bool false) (PO.pickF rfl rfl rfl) rfl ?_
 refine Pa (.bool false) rfl rfl ?_
 refine WL.nil ?_
 refine WQ.drop ?_
 obtain rfl := Option.some.inj h
 refine WQ.thenJ ?_
 exact ⟨(IM.le.refl _), rfl, rfl⟩
 have h := ite_f hb71 h
 iterate 2 refine Of 43 rfl rfl hb71 rfl ?_
 refine Pu (.bool false) (PO.pickF rfl hb71 rfl) rfl ?_
 refine Pm (.bool false) rfl rfl ?_
 refine Of 47 rfl rfl rfl rfl ?_
 refine Pu (.bool false) (PO.pickF rfl rfl rfl) rfl ?_
 refine Pm (.bool false) rfl rfl ?_
 iterate 2 refine Of 50 rfl rfl rfl rfl ?_
 refine Pu (.bool false) (PO.pickF rfl rfl rfl) rfl ?_
 refine Pm (.bool false) rfl rfl ?_
 iterate 2 refine Of 54 rfl rfl rfl rfl ?_
 refine Pu (.bool false) (PO.pickF rfl rfl rfl) rfl ?_
 refine Pm (.bool false) rfl rfl ?_
 refine Of 58 rfl rfl rfl rfl ?_
 refine Pu (.bool false) (PO.pickF rfl rfl rfl) rfl ?_
 refine Pm (.bool false) rfl rfl ?_
 iterate 2 refine Of 61 rfl rfl rfl rfl ?_
 refine Pu (.bool false) (PO.pickF rfl rfl rfl) rfl ?_
 refine Pm (.bool false) rfl rfl ?_
 iterate 2 refine Of 65 rfl rfl rfl rfl ?_
 refine Pu (.bool false) (PO.pickF rfl rfl rfl) rfl ?_
 refine Pm (.bool false) rfl rfl ?_
 iterate 3 refine Of 69 rfl rfl rfl rfl ?_
 refine Pu (.bool false) (PO.pickF rfl rfl rfl) rfl ?_
 refine Pm (.bool false) rfl rfl ?_
 iterate 3 refine Of 74 rfl rfl rfl rfl ?_
 refine Pu (.bool false) (PO.pickF rfl rfl rfl) rfl ?_
 refine Pm (.bool false) rfl rfl ?_
 iterate 4 refine Of 79 rfl rfl rfl rfl ?_
 refine Pu (.bool false) (PO.pickF rfl rfl rfl) rfl ?_
 refine Pm (.bool false) rfl rfl ?_
 iterate 4 refine Of 85 rfl rfl rfl rfl ?_
 refine Pu (.bool false) (PO.pickF rfl rfl rfl) rfl ?_
 refine Pm (.bool false) rfl rfl ?_
 iterate 3 refine Of 91 rfl rfl rfl rfl ?_
 refine Pu (.bool false) (PO.pickF rfl rfl rfl) rfl ?_
 refine Pa (.bool false) rfl rfl ?_
 refine WL.nil ?_
 refine WQ.drop ?_
 obtain rfl := Option.some.inj h
 refine WQ.thenJ ?_
 exact ⟨(IM.le.refl _), rfl, rfl⟩
 rintro ρ70 M70 H70 ⟨hle70, rfl, hs70_0⟩
 refine WC.ret ?_
 exact WQ.returnsF h [] rfl (results1 rfl hs70_0) ((((hle29.trans hle41).trans hle53).trans hle65).trans hle70) ⟨rfl, rfl⟩


end Go.Proofs.YtmifmgpfjamdkaaDoor.G
