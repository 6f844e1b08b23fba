/- Go functions: what they come to, and that they do. Printed by a program of the session (gen). -/
import Derived.Test.YtmifmgpfjamdkaaDoorTF
import Derived.Test.YtmifmgpfjamdkaaDoorT1
set_option linter.unusedVariables false
set_option linter.unusedSimpArgs false
namespace Go.Proofs.YtmifmgpfjamdkaaDoor.G
open Go Go.KK

noncomputable def f_ref13_Check_l0 (a0 : (List T_api_Span)) (s_ : Int) : Option (Int ⊕ (Unit ⊕ (Int × Int))) :=
  match s_ with
  | x23 =>
    (if (decide (x23 < (a0.length : Int))) = true then (((grd (0 ≤ x23 ∧ x23 < a0.length) (if (decide (((rd a0 x23).Term) < (0 : Int))) = true then (some true) else (grd (0 ≤ x23 ∧ x23 < a0.length) (if (decide ((1073741824 : Int) < ((rd a0 x23).Term))) = true then (some true) else (grd (0 ≤ x23 ∧ x23 < a0.length) (if (decide (((rd a0 x23).Start) < (0 : Int))) = true then (some true) else (grd (0 ≤ x23 ∧ x23 < a0.length) (some (decide ((1073741824 : Int) < ((rd a0 x23).Start))))))))))) : Option Bool).bind fun (x27 : Bool) => (if x27 = true then (some (Sum.inr (Sum.inr ((2 : Int), x23)))) else (((if (decide ((0 : Int) < x23)) = true then (grd (0 ≤ x23 ∧ x23 < a0.length) (grd (0 ≤ IntKind.i64.wrap (x23 - (1 : Int)) ∧ IntKind.i64.wrap (x23 - (1 : Int)) < a0.length) (if (decide (((rd a0 x23).Term) ≤ ((rd a0 (IntKind.i64.wrap (x23 - (1 : Int)))).Term))) = true then (some true) else (grd (0 ≤ x23 ∧ x23 < a0.length) (grd (0 ≤ IntKind.i64.wrap (x23 - (1 : Int)) ∧ IntKind.i64.wrap (x23 - (1 : Int)) < a0.length) (some (decide (((rd a0 x23).Start) ≤ ((rd a0 (IntKind.i64.wrap (x23 - (1 : Int)))).Start))))))))) else (some false)) : Option Bool).bind fun (x61 : Bool) => (if x61 = true then (some (Sum.inr (Sum.inr ((10 : Int), x23)))) else (some (Sum.inl (IntKind.i64.wrap (x23 + (1 : Int))))))))) else (some (Sum.inr (Sum.inl ()))))
noncomputable def f_ref13_Check (a0 : (List T_api_Span)) : Option (Int × Int) :=
  ((((iter (f_ref13_Check_l0 a0) (0 : Int)).bind (Sum.elim (fun _ => (some (Sum.inl ()))) (fun (x24, x25) => (((some (x24, x25))).bind fun r => some (Sum.inr r))))) : Option (Unit ⊕ (Int × Int))).bind (Sum.elim (fun _ => (some ((0 : Int), (0 : Int)))) some))
def f_ref13_Check_post (a0 : (List T_api_Span)) (v0 : Value) : (Int × Int) → Value → IM → HL → Prop :=
  fun (p_ : (Int × Int)) (v : Value) (M' : IM) (H' : HL) => match p_ with | (r0, r1) => (.tuple #[(.int .i64 r0), (.int .i64 r1)]) = v ∧ H' = []
set_option maxHeartbeats 1000000 in
set_option maxRecDepth 100000 in
theorem f_ref13_Check_ok (a0 : (List T_api_Span)) (M : IM) (v0 : Value) (h0 : RS kd_api_Span M v0 a0) (res : (Int × Int)) (h : f_ref13_Check a0 = some res) :
    Tri Tryd.prog 21 #[v0] M [] (f_ref13_Check_post a0 v0 res) := by
 unfold f_ref13_Check at h
 refine Tri.enter (fn := Tryd.f21) Tryd.func21 rfl (Nat.le_of_ble_eq_true rfl) ?_
 intro F ρ hρ
 refine Sr ?_
 refine Pa (.int .i64 (0 : Int)) rfl rfl ?_
 refine Pa (.int .i64 (0 : Int)) rfl rfl ?_
 refine Ns ?_
 refine Pa (.int .i64 (1073741824 : Int)) rfl rfl ?_
 refine Nt ?_
 obtain ⟨j21, hj21, h⟩ := bnd h
 refine WC.joinE (fun (_ : Unit) ρ' M' H' => M.le M' ∧ F = H') j21 ?_ ?_
 have h321 := h
 have h := hj21
 refine Sr ?_
 refine Pa (.int .i64 (0 : Int)) rfl rfl ?_
 refine Nt ?_
 refine WC.block ?_
 obtain ⟨e22, he22, hK22⟩ := bnd h
 clear h
 refine WC.loop he22 (fun (x23 : Int) ρ' M' H' => M.le M' ∧ F = H' ∧ ρ' 0 = v0 ∧ ρ' 4 = (.int .i64 (1073741824 : Int)) ∧ ρ' 5 = (.int .i64 x23)) ?_ ?_
 exact ⟨(IM.le.refl _), rfl, (hρ 0), rfl, rfl⟩
 rintro x23 o22 ρ22 M22 H22 h ⟨hle22, rfl, hs22_0, hs22_4, hs22_5⟩
 unfold f_ref13_Check_l0 at h
 have h0 := h0.mono hle22
 refine WC.seq ?_
 refine Sr ?_
 refine Pm (.int .i64 x23) hs22_5 rfl ?_
 refine Pm v0 hs22_0 rfl ?_
 refine Pu (.int .i64 (a0.length : Int)) (PO.lenS Tryd.underlying45 rfl h0.len) rfl ?_
 refine Pu (.bool (decide (x23 < (a0.length : Int)))) (PO.lss rfl rfl) rfl ?_
 refine Nt ?_
 refine WC.cond (b := decide (x23 < (a0.length : Int))) rfl (fun hb26 => ?_) (fun hb26 => ?_)
 have h := ite_t hb26 h
 refine WC.skip ?_
 refine WQ.thenC ?_
 refine WC.seq ?_
 refine WC.block ?_
 refine WC.seq ?_
 obtain ⟨x27, hj28, h⟩ := bnd h
 refine WC.joinF (fun (x27 : Bool) ρ' M' H' => M22.le M' ∧ F = H' ∧ ρ' 0 = v0 ∧ ρ' 4 = (.int .i64 (1073741824 : Int)) ∧ ρ' 5 = (.int .i64 x23) ∧ ρ' 43 = (.bool x27)) x27 ?_ ?_
 have h328 := h
 have h := hj28
 refine WC.region ?_
 refine Pm v0 hs22_0 rfl ?_
 refine Pm (.int .i64 x23) hs22_5 rfl ?_
 obtain ⟨hg29, h⟩ := grd_i h
 obtain ⟨p30, cs31, hat32, hrc33, hhas34⟩ := h0.at hg29.1 hg29.2 (by decide)
 obtain rfl := kd_api_Span_open hrc33
 refine Pu (.pointer (some p30)) (PO.indexAddr (n := a0.length) Tryd.underlying45 sz73 rfl rfl hg29.1 hg29.2 hat32) rfl ?_
 refine Pu (.pointer (some (p30.add 0))) (PO.fieldAddr fo73_0 rfl rfl) rfl ?_
 refine Pu (.int .i64 ((rd a0 x23).Term)) (PO.loadM pl3 rfl (IM.has0 hhas34)) rfl ?_
 refine Pu (.bool (decide (((rd a0 x23).Term) < (0 : Int)))) (PO.lss rfl rfl) rfl ?_
 refine Pm (.bool (decide (((rd a0 x23).Term) < (0 : Int)))) rfl rfl ?_
 rcases Bool.eq_false_or_eq_true (decide (((rd a0 x23).Term) < (0 : Int))) with hb36 | hb36
 have h := ite_t hb36 h
 iterate 7 refine Of 18 rfl rfl hb36 rfl ?_
 refine Pu (.bool true) (PO.pickT rfl hb36 rfl) rfl ?_
 refine Pm (.bool true) rfl rfl ?_
 iterate 6 refine Of 27 rfl rfl rfl rfl ?_
 refine Pu (.bool true) (PO.pickT rfl rfl rfl) rfl ?_
 refine Pm (.bool true) rfl rfl ?_
 iterate 7 refine Of 35 rfl rfl rfl rfl ?_
 refine Pu (.bool true) (PO.pickT rfl rfl rfl) rfl ?_
 refine WL.nil ?_
 obtain rfl := Option.some.inj h
 refine WQ.thenJ ?_
 exact ⟨(IM.le.refl _), rfl, hs22_0, hs22_4, hs22_5, rfl⟩
 have h := ite_f hb36 h
 refine On 18 rfl rfl hb36 ?_
 refine Pm v0 hs22_0 rfl ?_
 refine On 18 rfl rfl hb36 ?_
 refine Pm (.int .i64 x23) hs22_5 rfl ?_
 refine On 18 rfl rfl hb36 ?_
 obtain ⟨hg37, h⟩ := grd_i h
 obtain ⟨p38, cs39, hat40, hrc41, hhas42⟩ := h0.at hg37.1 hg37.2 (by decide)
 obtain rfl := kd_api_Span_open hrc41
 refine Pu (.pointer (some p38)) (PO.indexAddr (n := a0.length) Tryd.underlying45 sz73 rfl rfl hg37.1 hg37.2 hat40) rfl ?_
 refine On 18 rfl rfl hb36 ?_
 refine Pu (.pointer (some (p38.add 0))) (PO.fieldAddr fo73_0 rfl rfl) rfl ?_
 refine On 18 rfl rfl hb36 ?_
 refine Pu (.int .i64 ((rd a0 x23).Term)) (PO.loadM pl3 rfl (IM.has0 hhas42)) rfl ?_
 refine On 18 rfl rfl hb36 ?_
 refine Pm (.int .i64 (1073741824 : Int)) hs22_4 rfl ?_
 refine On 18 rfl rfl hb36 ?_
 refine Pu (.bool (decide ((1073741824 : Int) < ((rd a0 x23).Term)))) (PO.gtr rfl rfl) rfl ?_
 refine Pu (.bool (decide ((1073741824 : Int) < ((rd a0 x23).Term)))) (PO.pickF rfl hb36 rfl) rfl ?_
 refine Pm (.bool (decide ((1073741824 : Int) < ((rd a0 x23).Term)))) rfl rfl ?_
 rcases Bool.eq_false_or_eq_true (decide ((1073741824 : Int) < ((rd a0 x23).Term))) with hb44 | hb44
 have h := ite_t hb44 h
 iterate 6 refine Of 27 rfl rfl hb44 rfl ?_
 refine Pu (.bool true) (PO.pickT rfl hb44 rfl) rfl ?_
 refine Pm (.bool true) rfl rfl ?_
 iterate 7 refine Of 35 rfl rfl rfl rfl ?_
 refine Pu (.bool true) (PO.pickT rfl rfl rfl) rfl ?_
 refine WL.nil ?_
 obtain rfl := Option.some.inj h
 refine WQ.thenJ ?_
 exact ⟨(IM.le.refl _), rfl, hs22_0, hs22_4, hs22_5, rfl⟩
 have h := ite_f hb44 h
 refine On 27 rfl rfl hb44 ?_
 refine Pm v0 hs22_0 rfl ?_
 refine On 27 rfl rfl hb44 ?_
 refine Pm (.int .i64 x23) hs22_5 rfl ?_
 refine On 27 rfl rfl hb44 ?_
 obtain ⟨hg45, h⟩ := grd_i h
 obtain ⟨p46, cs47, hat48, hrc49, hhas50⟩ := h0.at hg45.1 hg45.2 (by decide)
 obtain rfl := kd_api_Span_open hrc49
 refine Pu (.pointer (some p46)) (PO.indexAddr (n := a0.length) Tryd.underlying45 sz73 rfl rfl hg45.1 hg45.2 hat48) rfl ?_
 refine On 27 rfl rfl hb44 ?_
 refine Pu (.pointer (some (p46.add 1))) (PO.fieldAddr fo73_1 rfl rfl) rfl ?_
 refine On 27 rfl rfl hb44 ?_
 refine Pu (.int .i64 ((rd a0 x23).Start)) (PO.loadM pl3 rfl (hhas50 1 _ rfl)) rfl ?_
 refine On 27 rfl rfl hb44 ?_
 refine Pu (.bool (decide (((rd a0 x23).Start) < (0 : Int)))) (PO.lss rfl rfl) rfl ?_
 refine Pu (.bool (decide (((rd a0 x23).Start) < (0 : Int)))) (PO.pickF rfl hb44 rfl) rfl ?_
 refine Pm (.bool (decide (((rd a0 x23).Start) < (0 : Int)))) rfl rfl ?_
 rcases Bool.eq_false_or_eq_true (decide (((rd a0 x23).Start) < (0 : Int))) with hb52 | hb52
 have h := ite_t hb52 h
 iterate 7 refine Of 35 rfl rfl hb52 rfl ?_
 refine Pu (.bool true) (PO.pickT rfl hb52 rfl) rfl ?_
 refine WL.nil ?_
 obtain rfl := Option.some.inj h
 refine WQ.thenJ ?_
 exact ⟨(IM.le.refl _), rfl, hs22_0, hs22_4, hs22_5, rfl⟩
 have h := ite_f hb52 h
 refine On 35 rfl rfl hb52 ?_
 refine Pm v0 hs22_0 rfl ?_
 refine On 35 rfl rfl hb52 ?_
 refine Pm (.int .i64 x23) hs22_5 rfl ?_
 refine On 35 rfl rfl hb52 ?_
 obtain ⟨hg53, h⟩ := grd_i h
 obtain ⟨p54, cs55, hat56, hrc57, hhas58⟩ := h0.at hg53.1 hg53.2 (by decide)
 obtain rfl := kd_api_Span_open hrc57
 refine Pu (.pointer (some p54)) (PO.indexAddr (n := a0.length) Tryd.underlying45 sz73 rfl rfl hg53.1 hg53.2 hat56) rfl ?_
 refine On 35 rfl rfl hb52 ?_
 refine Pu (.pointer (some (p54.add 1))) (PO.fieldAddr fo73_1 rfl rfl) rfl ?_
 refine On 35 rfl rfl hb52 ?_
 refine Pu (.int .i64 ((rd a0 x23).Start)) (PO.loadM pl3 rfl (hhas58 1 _ rfl)) rfl ?_
 refine On 35 rfl rfl hb52 ?_
 refine Pm (.int .i64 (1073741824 : Int)) hs22_4 rfl ?_
 refine On 35 rfl rfl hb52 ?_
 refine Pu (.bool (decide ((1073741824 : Int) < ((rd a0 x23).Start)))) (PO.gtr rfl rfl) rfl ?_
 refine Pu (.bool (decide ((1073741824 : Int) < ((rd a0 x23).Start)))) (PO.pickF rfl hb52 rfl) rfl ?_
 refine WL.nil ?_
 obtain rfl := Option.some.inj h
 refine WQ.thenJ ?_
 exact ⟨(IM.le.refl _), rfl, hs22_0, hs22_4, hs22_5, rfl⟩
 rintro ρ28 M28 H28 ⟨hle28, rfl, hs28_0, hs28_4, hs28_5, hs28_43⟩
 have h0 := h0.mono hle28
 refine WC.cond (b := x27) hs28_43 (fun hb60 => ?_) (fun hb60 => ?_)
 have h := ite_t hb60 h
 refine Sr ?_
 refine Pm (.int .i64 x23) hs28_5 rfl ?_
 refine Pa (.int .i64 (2 : Int)) rfl rfl ?_
 refine Pa (.int .i64 x23) rfl rfl ?_
 refine Nt ?_
 refine WC.ret ?_
 refine WQ.thenR ?_
 refine WQ.blockR ?_
 refine WQ.thenR ?_
 refine WQ.leaveR (Sum.inr ((2 : Int), x23)) (Option.some.inj h).symm (fun heq22 => ?_)
 subst heq22
 have h := (elimR hK22)
 refine WQ.blockR ?_
 refine WQ.thenR ?_
 have h := KK.early h h321
 exact WQ.returnsF h [] rfl (results2 rfl rfl rfl) (hle22.trans hle28) ⟨rfl, rfl⟩
 have h := ite_f hb60 h
 refine WC.skip ?_
 refine WQ.thenC ?_
 obtain ⟨x61, hj62, h⟩ := bnd h
 refine WC.joinF (fun (x61 : Bool) ρ' M' H' => M28.le M' ∧ F = H' ∧ ρ' 0 = v0 ∧ ρ' 4 = (.int .i64 (1073741824 : Int)) ∧ ρ' 5 = (.int .i64 x23) ∧ ρ' 74 = (.bool x61)) x61 ?_ ?_
 have h362 := h
 have h := hj62
 refine WC.draw [0, 1, 3, 7, 7, 31, 63, 127, 7, 7, 519, 1799, 3847, 7943, 16383, 32767, 65535, 65535, 262143, 524287, 1048575, 65535, 65535, 4259839, 14745599, 31522815, 65077247, 134217727, 268435455, 536870911] (.pure 0 (.pure 1 (.pure 2 (.pure 3 (.pure 4 (.pure 5 (.pure 6 (.pure 7 (.pure 8 (.pure 9 (.pure 10 (.pure 11 (.pure 12 (.pure 13 (.pure 14 (.pure 15 (.pure 16 (.pure 17 (.pure 18 (.pure 19 (.pure 20 (.pure 21 (.pure 22 (.pure 23 (.pure 24 (.pure 25 (.pure 26 (.pure 27 (.pure 28 (.pure 29 .done)))))))))))))))))))))))))))))) mixed (by kernel_rfl) ?_
 refine Tp (.int .i64 x23) rfl (PO.move hs28_5) rfl ?_
 refine Tp (.bool (decide ((0 : Int) < x23))) rfl (PO.gtr rfl rfl) rfl ?_
 refine Tp (.bool (decide ((0 : Int) < x23))) rfl (PO.move rfl) rfl ?_
 rcases Bool.eq_false_or_eq_true (decide ((0 : Int) < x23)) with hb63 | hb63
 have h := ite_t hb63 h
 refine Tn v0 47 rfl rfl rfl hb63 (PO.move hs28_0) rfl ?_
 refine Tn (.int .i64 x23) 47 rfl rfl rfl hb63 (PO.move hs28_5) rfl ?_
 obtain ⟨hg64, h⟩ := grd_i h
 obtain ⟨p65, cs66, hat67, hrc68, hhas69⟩ := h0.at hg64.1 hg64.2 (by decide)
 obtain rfl := kd_api_Span_open hrc68
 refine Tn (.pointer (some p65)) 47 rfl rfl rfl hb63 (PO.indexAddr (n := a0.length) Tryd.underlying45 sz73 rfl rfl hg64.1 hg64.2 hat67) rfl ?_
 refine Tn (.pointer (some (p65.add 0))) 47 rfl rfl rfl hb63 (PO.fieldAddr fo73_0 rfl rfl) rfl ?_
 refine Tn (.int .i64 ((rd a0 x23).Term)) 47 rfl rfl rfl hb63 (PO.loadM pl3 rfl (IM.has0 hhas69)) rfl ?_
 refine Tn v0 47 rfl rfl rfl hb63 (PO.move hs28_0) rfl ?_
 refine Tn (.int .i64 x23) 47 rfl rfl rfl hb63 (PO.move hs28_5) rfl ?_
 refine Tn (.int .i64 (IntKind.i64.wrap (x23 - (1 : Int)))) 47 rfl rfl rfl hb63 (PO.sub rfl rfl) rfl ?_
 obtain ⟨hg71, h⟩ := grd_i h
 obtain ⟨p72, cs73, hat74, hrc75, hhas76⟩ := h0.at hg71.1 hg71.2 (by decide)
 obtain rfl := kd_api_Span_open hrc75
 refine Tn (.pointer (some p72)) 47 rfl rfl rfl hb63 (PO.indexAddr (n := a0.length) Tryd.underlying45 sz73 rfl rfl hg71.1 hg71.2 hat74) rfl ?_
 refine Tn (.pointer (some (p72.add 0))) 47 rfl rfl rfl hb63 (PO.fieldAddr fo73_0 rfl rfl) rfl ?_
 refine Tn (.int .i64 ((rd a0 (IntKind.i64.wrap (x23 - (1 : Int)))).Term)) 47 rfl rfl rfl hb63 (PO.loadM pl3 rfl (IM.has0 hhas76)) rfl ?_
 refine Tn (.bool (decide (((rd a0 x23).Term) ≤ ((rd a0 (IntKind.i64.wrap (x23 - (1 : Int)))).Term)))) 47 rfl rfl rfl hb63 (PO.leq rfl rfl) rfl ?_
 refine Tn (.bool (decide (((rd a0 x23).Term) ≤ ((rd a0 (IntKind.i64.wrap (x23 - (1 : Int)))).Term)))) 47 rfl rfl rfl hb63 (PO.move rfl) rfl ?_
 rcases Bool.eq_false_or_eq_true (decide (((rd a0 x23).Term) ≤ ((rd a0 (IntKind.i64.wrap (x23 - (1 : Int)))).Term))) with hb78 | hb78
 have h := ite_t hb78 h
 refine WT.pureOff 60 rfl rfl rfl hb78 rfl ?_
 refine WT.pureOff 60 rfl rfl rfl hb78 rfl ?_
 refine WT.pureOff 60 rfl rfl rfl hb78 rfl ?_
 refine WT.pureOff 60 rfl rfl rfl hb78 rfl ?_
 refine WT.pureOff 60 rfl rfl rfl hb78 rfl ?_
 refine WT.pureOff 60 rfl rfl rfl hb78 rfl ?_
 refine WT.pureOff 60 rfl rfl rfl hb78 rfl ?_
 refine WT.pureOff 60 rfl rfl rfl hb78 rfl ?_
 refine WT.pureOff 60 rfl rfl rfl hb78 rfl ?_
 refine WT.pureOff 60 rfl rfl rfl hb78 rfl ?_
 refine WT.pureOff 60 rfl rfl rfl hb78 rfl ?_
 refine WT.pureOff 60 rfl rfl rfl hb78 rfl ?_
 refine Tn (.bool true) 47 rfl rfl rfl hb63 (PO.pickT rfl hb78 rfl) rfl ?_
 refine Tp (.bool true) rfl (PO.pickT rfl hb63 rfl) rfl ?_
 refine WT.fin ?_
 obtain rfl := Option.some.inj h
 refine WQ.thenJ ?_
 exact ⟨(IM.le.refl _), rfl, hs28_0, hs28_4, hs28_5, rfl⟩
 have h := ite_f hb78 h
 refine Tn v0 60 rfl rfl rfl hb78 (PO.move hs28_0) rfl ?_
 refine Tn (.int .i64 x23) 60 rfl rfl rfl hb78 (PO.move hs28_5) rfl ?_
 obtain ⟨hg79, h⟩ := grd_i h
 obtain ⟨p80, cs81, hat82, hrc83, hhas84⟩ := h0.at hg79.1 hg79.2 (by decide)
 obtain rfl := kd_api_Span_open hrc83
 refine Tn (.pointer (some p80)) 60 rfl rfl rfl hb78 (PO.indexAddr (n := a0.length) Tryd.underlying45 sz73 rfl rfl hg79.1 hg79.2 hat82) rfl ?_
 refine Tn (.pointer (some (p80.add 1))) 60 rfl rfl rfl hb78 (PO.fieldAddr fo73_1 rfl rfl) rfl ?_
 refine Tn (.int .i64 ((rd a0 x23).Start)) 60 rfl rfl rfl hb78 (PO.loadM pl3 rfl (hhas84 1 _ rfl)) rfl ?_
 refine Tn v0 60 rfl rfl rfl hb78 (PO.move hs28_0) rfl ?_
 refine Tn (.int .i64 x23) 60 rfl rfl rfl hb78 (PO.move hs28_5) rfl ?_
 refine Tn (.int .i64 (IntKind.i64.wrap (x23 - (1 : Int)))) 60 rfl rfl rfl hb78 (PO.sub rfl rfl) rfl ?_
 obtain ⟨hg86, h⟩ := grd_i h
 obtain ⟨p87, cs88, hat89, hrc90, hhas91⟩ := h0.at hg86.1 hg86.2 (by decide)
 obtain rfl := kd_api_Span_open hrc90
 refine Tn (.pointer (some p87)) 60 rfl rfl rfl hb78 (PO.indexAddr (n := a0.length) Tryd.underlying45 sz73 rfl rfl hg86.1 hg86.2 hat89) rfl ?_
 refine Tn (.pointer (some (p87.add 1))) 60 rfl rfl rfl hb78 (PO.fieldAddr fo73_1 rfl rfl) rfl ?_
 refine Tn (.int .i64 ((rd a0 (IntKind.i64.wrap (x23 - (1 : Int)))).Start)) 60 rfl rfl rfl hb78 (PO.loadM pl3 rfl (hhas91 1 _ rfl)) rfl ?_
 refine Tn (.bool (decide (((rd a0 x23).Start) ≤ ((rd a0 (IntKind.i64.wrap (x23 - (1 : Int)))).Start)))) 60 rfl rfl rfl hb78 (PO.leq rfl rfl) rfl ?_
 refine Tn (.bool (decide (((rd a0 x23).Start) ≤ ((rd a0 (IntKind.i64.wrap (x23 - (1 : Int)))).Start)))) 47 rfl rfl rfl hb63 (PO.pickF rfl hb78 rfl) rfl ?_
 refine Tp (.bool (decide (((rd a0 x23).Start) ≤ ((rd a0 (IntKind.i64.wrap (x23 - (1 : Int)))).Start)))) rfl (PO.pickT rfl hb63 rfl) rfl ?_
 refine WT.fin ?_
 obtain rfl := Option.some.inj h
 refine WQ.thenJ ?_
 exact ⟨(IM.le.refl _), rfl, hs28_0, hs28_4, hs28_5, rfl⟩
 have h := ite_f hb63 h
 refine WT.pureOff 47 rfl rfl rfl hb63 rfl ?_
 refine WT.pureOff 47 rfl rfl rfl hb63 rfl ?_
 refine WT.pureOff 47 rfl rfl rfl hb63 rfl ?_
 refine WT.pureOff 47 rfl rfl rfl hb63 rfl ?_
 refine WT.pureOff 47 rfl rfl rfl hb63 rfl ?_
 refine WT.pureOff 47 rfl rfl rfl hb63 rfl ?_
 refine WT.pureOff 47 rfl rfl rfl hb63 rfl ?_
 refine WT.pureOff 47 rfl rfl rfl hb63 rfl ?_
 refine WT.pureOff 47 rfl rfl rfl hb63 rfl ?_
 refine WT.pureOff 47 rfl rfl rfl hb63 rfl ?_
 refine WT.pureOff 47 rfl rfl rfl hb63 rfl ?_
 refine WT.pureOff 47 rfl rfl rfl hb63 rfl ?_
 refine WT.pureOff 47 rfl rfl rfl hb63 rfl ?_
 refine WT.pureOffU 60 rfl rfl rfl  rfl ?_
 refine WT.pureOffU 60 rfl rfl rfl  rfl ?_
 refine WT.pureOffU 60 rfl rfl rfl  rfl ?_
 refine WT.pureOffU 60 rfl rfl rfl  rfl ?_
 refine WT.pureOffU 60 rfl rfl rfl  rfl ?_
 refine WT.pureOffU 60 rfl rfl rfl  rfl ?_
 refine WT.pureOffU 60 rfl rfl rfl  rfl ?_
 refine WT.pureOffU 60 rfl rfl rfl  rfl ?_
 refine WT.pureOffU 60 rfl rfl rfl  rfl ?_
 refine WT.pureOffU 60 rfl rfl rfl  rfl ?_
 refine WT.pureOffU 60 rfl rfl rfl  rfl ?_
 refine WT.pureOffU 60 rfl rfl rfl  rfl ?_
 refine WT.pureOff 47 rfl rfl rfl hb63 rfl ?_
 refine Tp (.bool false) rfl (PO.pickF rfl hb63 rfl) rfl ?_
 refine WT.fin ?_
 obtain rfl := Option.some.inj h
 refine WQ.thenJ ?_
 exact ⟨(IM.le.refl _), rfl, hs28_0, hs28_4, hs28_5, rfl⟩
 rintro ρ62 M62 H62 ⟨hle62, rfl, hs62_0, hs62_4, hs62_5, hs62_74⟩
 have h0 := h0.mono hle62
 refine WC.cond (b := x61) hs62_74 (fun hb93 => ?_) (fun hb93 => ?_)
 have h := ite_t hb93 h
 refine Sr ?_
 refine Pm (.int .i64 x23) hs62_5 rfl ?_
 refine Pa (.int .i64 (10 : Int)) rfl rfl ?_
 refine Pa (.int .i64 x23) rfl rfl ?_
 refine Nt ?_
 refine WC.ret ?_
 refine WQ.blockR ?_
 refine WQ.thenR ?_
 refine WQ.leaveR (Sum.inr ((10 : Int), x23)) (Option.some.inj h).symm (fun heq22 => ?_)
 subst heq22
 have h := (elimR hK22)
 refine WQ.blockR ?_
 refine WQ.thenR ?_
 have h := KK.early h h321
 exact WQ.returnsF h [] rfl (results2 rfl rfl rfl) ((hle22.trans hle28).trans hle62) ⟨rfl, rfl⟩
 have h := ite_f hb93 h
 refine WC.skip ?_
 refine WQ.blockN ?_
 refine WQ.thenC ?_
 refine WC.region ?_
 refine Pm (.int .i64 x23) hs62_5 rfl ?_
 refine Pu (.int .i64 (IntKind.i64.wrap (x23 + (1 : Int)))) (PO.add rfl rfl) rfl ?_
 refine Pa (.int .i64 (IntKind.i64.wrap (x23 + (1 : Int)))) rfl rfl ?_
 refine WL.nil ?_
 refine WQ.again (IntKind.i64.wrap (x23 + (1 : Int))) (Option.some.inj h).symm ?_
 exact ⟨((hle22.trans hle28).trans hle62), rfl, hs62_0, hs62_4, rfl⟩
 have h := ite_f hb26 h
 refine WC.exit ?_
 refine WQ.thenE ?_
 refine WQ.leaveE (Sum.inl ()) (Option.some.inj h).symm (fun heq22 => ?_)
 subst heq22
 have h := elimL hK22
 refine WQ.blockH ?_
 refine WQ.thenFE h ?_
 exact ⟨hle22, rfl⟩
 rintro _ ρ21 M21 H21 rfl ⟨hle21, rfl⟩
 refine Sr ?_
 refine Pa (.int .i64 (0 : Int)) rfl rfl ?_
 refine Pa (.int .i64 (0 : Int)) rfl rfl ?_
 refine Nt ?_
 refine WC.ret ?_
 exact WQ.returnsF h [] rfl (results2 rfl rfl rfl) hle21 ⟨rfl, rfl⟩

noncomputable def f_errors_as_fault_l0 (a1 : T_api_Fault) (s_ : GErr) : Option (GErr ⊕ (Bool × ByteArray × Int × GErr)) :=
  match s_ with
  | x23 =>
    (match x23 with | .nil => none | .code n28 => (some (Sum.inr (false, a1.Op, a1.At, a1.Err))) | .fault o29 a30 e31 => (some (Sum.inr (true, o29, a30, e31))) | .other b32 => (some (Sum.inr (false, a1.Op, a1.At, a1.Err))))
noncomputable def f_errors_as_fault (a0 : GErr) (a1 : T_api_Fault) : Option (Bool × ByteArray × Int × GErr) :=
  ((iter (f_errors_as_fault_l0 a1) a0).bind (fun (x24, x25, x26, x27) => (some (x24, x25, x26, x27))))
def f_errors_as_fault_post (a0 : GErr) (a1 : T_api_Fault) (g1 g2 : Nat) : (Bool × ByteArray × Int × GErr) → Value → IM → HL → Prop :=
  fun (p_ : (Bool × ByteArray × Int × GErr)) (v : Value) (M' : IM) (H' : HL) => match p_ with | (r0, r1, r2, r3) => (.bool r0) = v ∧ H' = [[(g1, .cells #[(.string r1), (.int .i64 r2), (GV r3)] 65 (0, 0))], [(g2, .cells #[(.pointer (some ⟨g1, 0, none⟩))] 67 (0, 0))]]
set_option maxHeartbeats 1000000 in
set_option maxRecDepth 100000 in
theorem f_errors_as_fault_ok (a0 : GErr) (a1 : T_api_Fault) (M : IM) (g1 g2 : Nat) (res : (Bool × ByteArray × Int × GErr)) (h : f_errors_as_fault a0 a1 = some res) :
    Tri Tryd.prog 45 #[(GV a0), (.iface 67 (.pointer (some ⟨g1, 0, none⟩))), (.agg #[(.pointer (some ⟨1, 67, none⟩)), (.pointer (some ⟨g2, 0, none⟩)), (.int .u64 (150 : Int))]), (.iface 104 (.agg #[.pointer (some ⟨1, 65, none⟩)]))] M [[(g1, .cells #[(.string a1.Op), (.int .i64 a1.At), (GV a1.Err)] 65 (0, 0))], [(g2, .cells #[(.pointer (some ⟨g1, 0, none⟩))] 67 (0, 0))]] (f_errors_as_fault_post a0 a1 g1 g2 res) := by
 unfold f_errors_as_fault at h
 refine Tri.enter (fn := Tryd.f45) Tryd.func45 rfl (Nat.le_of_ble_eq_true rfl) ?_
 intro F ρ hρ
 refine Sr ?_
 refine WL.eff (EO.box (cs := #[(.pointer (some ⟨1, 67, none⟩)), (.pointer (some ⟨g2, 0, none⟩)), (.int .u64 (150 : Int))]) (congrArg Value.cells (asE (.agg #[(.pointer (some ⟨1, 67, none⟩)), (.pointer (some ⟨g2, 0, none⟩)), (.int .u64 (150 : Int))]) (hρ 2)))) rfl ?_
 rintro _ _ _ - ⟨rfl, g21, rfl, rfl⟩
 refine Pa (.bool false) rfl rfl ?_
 refine Nt ?_
 refine WC.block ?_
 obtain ⟨e22, he22, hK22⟩ := bnd h
 clear h
 refine WC.loop he22 (fun (x23 : GErr) ρ' M' H' => M.le M' ∧ [(g21, .cells #[(.pointer (some ⟨1, 67, none⟩)), (.pointer (some ⟨g2, 0, none⟩)), (.int .u64 (150 : Int))] 89 (0, 0))] :: [(g1, .cells #[(.string a1.Op), (.int .i64 a1.At), (GV a1.Err)] 65 (0, 0))] :: [(g2, .cells #[(.pointer (some ⟨g1, 0, none⟩))] 67 (0, 0))] :: F = H' ∧ ρ' 0 = (GV x23) ∧ ρ' 1 = (.iface 67 (.pointer (some ⟨g1, 0, none⟩))) ∧ ρ' 3 = (.iface 104 (.agg #[.pointer (some ⟨1, 65, none⟩)])) ∧ ρ' 6 = (.pointer (some ⟨g21, 0, none⟩))) ?_ ?_
 exact ⟨(IM.le.refl _), rfl, (hρ 0), (hρ 1), (hρ 3), rfl⟩
 rintro x23 o22 ρ22 M22 H22 h ⟨hle22, rfl, hs22_0, hs22_1, hs22_3, hs22_6⟩
 unfold f_errors_as_fault_l0 at h
 refine WC.block ?_
 refine WC.seq ?_
 refine Sr ?_
 refine Pm (GV x23) hs22_0 rfl ?_
 rcases x23 with _ | n28 | ⟨o29, a30, e31⟩ | b32
 refine WL.eff (EO.extP xt49 (args1 (show ev _ _ = .nilIface from rfl)) tyNil) rfl ?_
 rintro _ _ _ - ⟨rfl, rfl, rfl⟩
 refine Pm (.iface 104 (.agg #[.pointer (some ⟨1, 65, none⟩)])) hs22_3 rfl ?_
 exact nones h
 refine WL.eff (EO.extP xt49 (args1 (show ev _ _ = (.iface 35 (.int .i64 n28)) from rfl)) (ty35 _)) rfl ?_
 rintro _ _ _ - ⟨rfl, rfl, rfl⟩
 refine Pm (.iface 104 (.agg #[.pointer (some ⟨1, 65, none⟩)])) hs22_3 rfl ?_
 refine WL.eff (EO.invE (show ev _ _ = (.iface 104 (.agg #[.pointer (some ⟨1, 35, none⟩)])) from rfl) (mm_AssignableTo (.pointer (some ⟨1, 35, none⟩))) xt78 (inv1 rfl) mr_AssignableTo_35_65) rfl ?_
 rintro _ _ _ - ⟨rfl, rfl, rfl⟩
 refine Nt ?_
 refine WC.condF (b := false) rfl rfl ?_
 refine WC.skip ?_
 refine WQ.thenC ?_
 refine WC.seq ?_
 refine Sr ?_
 refine Pm (GV (GErr.code n28)) hs22_0 rfl ?_
 refine Pu (.tuple #[.nilIface, (.bool false)]) (PO.asserts (show ev _ _ = (.iface 35 (.int .i64 n28)) from rfl) (la35_108 _ _)) rfl ?_
 refine Pm (.tuple #[.nilIface, (.bool false)]) rfl rfl ?_
 refine Pu .nilIface (PO.extract rfl rfl) rfl ?_
 refine Pu (.bool false) (PO.extract rfl rfl) rfl ?_
 refine Pa .nilIface rfl rfl ?_
 refine Pa (.bool false) rfl rfl ?_
 refine Ns ?_
 refine Pm (.bool false) rfl rfl ?_
 refine Pm (.bool false) rfl rfl ?_
 iterate 3 refine Of 31 rfl rfl rfl rfl ?_
 refine Pu (.bool false) (PO.pickF rfl rfl rfl) rfl ?_
 refine Nt ?_
 refine WC.condF (b := false) rfl rfl ?_
 refine WC.skip ?_
 refine WQ.thenC ?_
 refine Sr ?_
 refine Pm (GV (GErr.code n28)) hs22_0 rfl ?_
 refine Nt ?_
 refine WC.block ?_
 refine Sr ?_
 refine Pu (.tuple #[.nilIface, (.bool false)]) (PO.asserts (show ev _ _ = (.iface 35 (.int .i64 n28)) from rfl) (la35_111 _ _)) rfl ?_
 refine Pu (.bool false) (PO.extract rfl rfl) rfl ?_
 refine Pu .nilIface (PO.extract rfl rfl) rfl ?_
 refine Nt ?_
 refine WC.condF (b := false) rfl rfl ?_
 refine Sr ?_
 refine Pu (.tuple #[.nilIface, (.bool false)]) (PO.asserts (show ev _ _ = (.iface 35 (.int .i64 n28)) from rfl) (la35_113 _ _)) rfl ?_
 refine Pu (.bool false) (PO.extract rfl rfl) rfl ?_
 refine Pu .nilIface (PO.extract rfl rfl) rfl ?_
 refine Nt ?_
 refine WC.condF (b := false) rfl rfl ?_
 refine Sr ?_
 refine Pa (GV (GErr.code n28)) rfl rfl ?_
 refine Ns ?_
 refine Pa (.bool false) rfl rfl ?_
 refine Nt ?_
 refine WC.ret ?_
 refine WQ.blockR ?_
 refine WQ.blockR ?_
 refine WQ.leaveR (false, a1.Op, a1.At, a1.Err) (Option.some.inj h).symm (fun heq22 => ?_)
 subst heq22
 have h := hK22
 refine WQ.blockR ?_
 refine WQ.drop ?_
 exact WQ.returnsF h [[(g1, .cells #[(.string a1.Op), (.int .i64 a1.At), (GV a1.Err)] 65 (0, 0))], [(g2, .cells #[(.pointer (some ⟨g1, 0, none⟩))] 67 (0, 0))]] rfl (results1 rfl rfl) hle22 ⟨rfl, rfl⟩
 refine WL.eff (EO.extP xt49 (args1 (show ev _ _ = (.iface 65 (.agg #[.string o29, .int .i64 a30, GV e31])) from rfl)) (ty65 _)) rfl ?_
 rintro _ _ _ - ⟨rfl, rfl, rfl⟩
 refine Pm (.iface 104 (.agg #[.pointer (some ⟨1, 65, none⟩)])) hs22_3 rfl ?_
 refine WL.eff (EO.invE (show ev _ _ = (.iface 104 (.agg #[.pointer (some ⟨1, 65, none⟩)])) from rfl) (mm_AssignableTo (.pointer (some ⟨1, 65, none⟩))) xt78 (inv1 rfl) mr_AssignableTo_65_65) rfl ?_
 rintro _ _ _ - ⟨rfl, rfl, rfl⟩
 refine Nt ?_
 refine WC.condT (b := true) rfl rfl ?_
 refine Sr ?_
 refine Pu (.agg #[(.pointer (some ⟨1, 67, none⟩)), (.pointer (some ⟨g2, 0, none⟩)), (.int .u64 (150 : Int))]) (PO.loadBA (cs := [(.pointer (some ⟨1, 67, none⟩)), (.pointer (some ⟨g2, 0, none⟩)), (.int .u64 (150 : Int))]) 0 ag89 sz89 hs22_6 rfl rfl) rfl ?_
 refine WL.eff (EO.rvElem (r := fun p => .agg #[(.pointer (some ⟨1, 65, none⟩)), .pointer (some p), .int .u64 409]) 2 xt51 pp67_150 rfl pl67 el67 mk65 (args1 (show ev _ _ = (.agg #[(.pointer (some ⟨1, 67, none⟩)), (.pointer (some ⟨g2, 0, none⟩)), (.int .u64 (150 : Int))]) from rfl)) rfl) rfl ?_
 rintro _ _ _ - ⟨rfl, rfl, rfl⟩
 refine Pm (GV (GErr.fault o29 a30 e31)) hs22_0 rfl ?_
 refine WL.eff (EO.valueOf xt42 (args1 (show ev _ _ = (.iface 65 (.agg #[.string o29, .int .i64 a30, GV e31])) from rfl)) (vo65 o29 a30 (GV e31))) rfl ?_
 rintro _ _ _ - ⟨rfl, g33, rfl, rfl⟩
 refine WL.f2 ?_
 refine WL.eff (EO.rvSet (arr := [(.string a1.Op), (.int .i64 a1.At), (GV a1.Err)]) (vl := [(.string o29), (.int .i64 a30), (GV e31)]) (v := (.agg #[(.string o29), (.int .i64 a30), (GV e31)])) xt52 pp65_409 pp65_153 rfl da65 (args2 (show ev _ _ = (.agg #[(.pointer (some ⟨1, 65, none⟩)), (.pointer (some ⟨g1, 0, none⟩)), (.int .u64 (409 : Int))]) from rfl) (show ev _ _ = (.agg #[(.pointer (some ⟨1, 65, none⟩)), (.pointer (some ⟨g33, 0, none⟩)), (.int .u64 (153 : Int))]) from rfl)) (fun _ hs => run_loadAgg (cs := [(.string o29), (.int .i64 a30), (GV e31)]) ag65 sz65 (fun i v hi => by rw [add_lit]; exact hs.cellC 1 rfl (chunkCell_lit.trans (by simpa using hi)))) rfl sz65 rfl (onesOf (Ones.cons rfl (Ones.cons rfl (Ones.cons (GErr.val_one _ _ _ _) Ones.nil))))) rfl ?_
 rintro _ _ _ - ⟨rfl, rfl, rfl⟩
 refine Ns ?_
 refine Pa (.bool true) rfl rfl ?_
 refine Nt ?_
 refine WC.ret ?_
 refine WQ.thenR ?_
 refine WQ.blockR ?_
 refine WQ.leaveR (true, o29, a30, e31) (Option.some.inj h).symm (fun heq22 => ?_)
 subst heq22
 have h := hK22
 refine WQ.blockR ?_
 refine WQ.f1 ?_
 refine WQ.drop ?_
 refine WQ.f1 ?_
 refine WQ.drop ?_
 exact WQ.returnsF h [[(g1, .cells #[(.string o29), (.int .i64 a30), (GV e31)] 65 (0, 0))], [(g2, .cells #[(.pointer (some ⟨g1, 0, none⟩))] 67 (0, 0))]] rfl (results1 rfl rfl) hle22 ⟨rfl, rfl⟩
 refine WL.eff (EO.extP xt49 (args1 (show ev _ _ = (.iface 83 (.pointer (some b32))) from rfl)) (ty83 _)) rfl ?_
 rintro _ _ _ - ⟨rfl, rfl, rfl⟩
 refine Pm (.iface 104 (.agg #[.pointer (some ⟨1, 65, none⟩)])) hs22_3 rfl ?_
 refine WL.eff (EO.invE (show ev _ _ = (.iface 104 (.agg #[.pointer (some ⟨1, 83, none⟩)])) from rfl) (mm_AssignableTo (.pointer (some ⟨1, 83, none⟩))) xt78 (inv1 rfl) mr_AssignableTo_83_65) rfl ?_
 rintro _ _ _ - ⟨rfl, rfl, rfl⟩
 refine Nt ?_
 refine WC.condF (b := false) rfl rfl ?_
 refine WC.skip ?_
 refine WQ.thenC ?_
 refine WC.seq ?_
 refine Sr ?_
 refine Pm (GV (GErr.other b32)) hs22_0 rfl ?_
 refine Pu (.tuple #[.nilIface, (.bool false)]) (PO.asserts (show ev _ _ = (.iface 83 (.pointer (some b32))) from rfl) (la83_108 _ _)) rfl ?_
 refine Pm (.tuple #[.nilIface, (.bool false)]) rfl rfl ?_
 refine Pu .nilIface (PO.extract rfl rfl) rfl ?_
 refine Pu (.bool false) (PO.extract rfl rfl) rfl ?_
 refine Pa .nilIface rfl rfl ?_
 refine Pa (.bool false) rfl rfl ?_
 refine Ns ?_
 refine Pm (.bool false) rfl rfl ?_
 refine Pm (.bool false) rfl rfl ?_
 iterate 3 refine Of 31 rfl rfl rfl rfl ?_
 refine Pu (.bool false) (PO.pickF rfl rfl rfl) rfl ?_
 refine Nt ?_
 refine WC.condF (b := false) rfl rfl ?_
 refine WC.skip ?_
 refine WQ.thenC ?_
 refine Sr ?_
 refine Pm (GV (GErr.other b32)) hs22_0 rfl ?_
 refine Nt ?_
 refine WC.block ?_
 refine Sr ?_
 refine Pu (.tuple #[.nilIface, (.bool false)]) (PO.asserts (show ev _ _ = (.iface 83 (.pointer (some b32))) from rfl) (la83_111 _ _)) rfl ?_
 refine Pu (.bool false) (PO.extract rfl rfl) rfl ?_
 refine Pu .nilIface (PO.extract rfl rfl) rfl ?_
 refine Nt ?_
 refine WC.condF (b := false) rfl rfl ?_
 refine Sr ?_
 refine Pu (.tuple #[.nilIface, (.bool false)]) (PO.asserts (show ev _ _ = (.iface 83 (.pointer (some b32))) from rfl) (la83_113 _ _)) rfl ?_
 refine Pu (.bool false) (PO.extract rfl rfl) rfl ?_
 refine Pu .nilIface (PO.extract rfl rfl) rfl ?_
 refine Nt ?_
 refine WC.condF (b := false) rfl rfl ?_
 refine Sr ?_
 refine Pa (GV (GErr.other b32)) rfl rfl ?_
 refine Ns ?_
 refine Pa (.bool false) rfl rfl ?_
 refine Nt ?_
 refine WC.ret ?_
 refine WQ.blockR ?_
 refine WQ.blockR ?_
 refine WQ.leaveR (false, a1.Op, a1.At, a1.Err) (Option.some.inj h).symm (fun heq22 => ?_)
 subst heq22
 have h := hK22
 refine WQ.blockR ?_
 refine WQ.drop ?_
 exact WQ.returnsF h [[(g1, .cells #[(.string a1.Op), (.int .i64 a1.At), (GV a1.Err)] 65 (0, 0))], [(g2, .cells #[(.pointer (some ⟨g1, 0, none⟩))] 67 (0, 0))]] rfl (results1 rfl rfl) hle22 ⟨rfl, rfl⟩

noncomputable def f_errors_As_fault (a0 : GErr) (a1 : T_api_Fault) : Option (Bool × ByteArray × Int × GErr) :=
  (if a0.isNil = true then (some (false, a1.Op, a1.At, a1.Err)) else ((f_errors_as_fault a0 a1).bind fun (r24, r25, r26, r27) => (some (r24, r25, r26, r27))))
def f_errors_As_fault_post (a0 : GErr) (a1 : T_api_Fault) (g1 : Nat) : (Bool × ByteArray × Int × GErr) → Value → IM → HL → Prop :=
  fun (p_ : (Bool × ByteArray × Int × GErr)) (v : Value) (M' : IM) (H' : HL) => match p_ with | (r0, r1, r2, r3) => (.bool r0) = v ∧ H' = [[(g1, .cells #[(.string r1), (.int .i64 r2), (GV r3)] 65 (0, 0))]]
set_option maxHeartbeats 1000000 in
set_option maxRecDepth 100000 in
theorem f_errors_As_fault_ok (a0 : GErr) (a1 : T_api_Fault) (M : IM) (g1 : Nat) (hE : Env M) (res : (Bool × ByteArray × Int × GErr)) (h : f_errors_As_fault a0 a1 = some res) :
    Tri Tryd.prog 33 #[(GV a0), (.iface 67 (.pointer (some ⟨g1, 0, none⟩)))] M [[(g1, .cells #[(.string a1.Op), (.int .i64 a1.At), (GV a1.Err)] 65 (0, 0))]] (f_errors_As_fault_post a0 a1 g1 res) := by
 unfold f_errors_As_fault at h
 refine Tri.enter (fn := Tryd.f33) Tryd.func33 rfl (Nat.le_of_ble_eq_true rfl) ?_
 intro F ρ hρ
 refine Sr ?_
 refine Pa (.bool false) rfl rfl ?_
 refine Nt ?_
 refine WC.seq ?_
 refine Sr ?_
 refine Pm (GV a0) (hρ 0) rfl ?_
 refine Pu (.bool a0.isNil) (PO.errNil Tryd.underlying28 rfl) rfl ?_
 refine Nt ?_
 refine WC.cond (b := a0.isNil) rfl (fun hb21 => ?_) (fun hb21 => ?_)
 have h := ite_t hb21 h
 refine Sr ?_
 refine Pa (.bool false) rfl rfl ?_
 refine Nt ?_
 refine WC.ret ?_
 refine WQ.thenR ?_
 exact WQ.returnsF h [[(g1, .cells #[(.string a1.Op), (.int .i64 a1.At), (GV a1.Err)] 65 (0, 0))]] rfl (results1 rfl rfl) (IM.le.refl _) ⟨rfl, rfl⟩
 have h := ite_f hb21 h
 refine WC.skip ?_
 refine WQ.thenC ?_
 refine WC.seq ?_
 refine Sr ?_
 refine Pm (.iface 67 (.pointer (some ⟨g1, 0, none⟩))) (hρ 1) rfl ?_
 refine Pu (.bool false) (PO.ifcNil Tryd.underlying20 rfl) rfl ?_
 refine Nt ?_
 refine WC.condF (b := false) rfl rfl ?_
 refine WC.skip ?_
 refine WQ.thenC ?_
 refine Sr ?_
 refine Pm (.iface 67 (.pointer (some ⟨g1, 0, none⟩))) (hρ 1) rfl ?_
 refine WL.eff (EO.valueOf xt42 (args1 (show ev _ _ = (.iface 67 (.pointer (some ⟨g1, 0, none⟩))) from rfl)) (vo67 ⟨g1, 0, none⟩)) rfl ?_
 rintro _ _ _ - ⟨rfl, g22, rfl, rfl⟩
 refine WL.eff (EO.alloc ze89 rfl) rfl ?_
 rintro _ _ _ - ⟨rfl, g23, rfl, rfl⟩
 refine WL.eff (EO.storeL (v := (.agg #[(.pointer (some ⟨1, 67, none⟩)), (.pointer (some ⟨g22, 0, none⟩)), (.int .u64 (150 : Int))])) (vl := [(.pointer (some ⟨1, 67, none⟩)), (.pointer (some ⟨g22, 0, none⟩)), (.int .u64 (150 : Int))]) (arr' := [(.pointer (some ⟨1, 67, none⟩)), (.pointer (some ⟨g22, 0, none⟩)), (.int .u64 (150 : Int))]) rfl sz89 rfl rfl (onesOf (Ones.cons rfl (Ones.cons rfl (Ones.cons rfl Ones.nil)))) rfl rfl rfl) rfl ?_
 rintro _ _ _ - ⟨rfl, rfl⟩
 refine Ns ?_
 refine Pu (.agg #[(.pointer (some ⟨1, 67, none⟩)), (.pointer (some ⟨g22, 0, none⟩)), (.int .u64 (150 : Int))]) (PO.loadBA (cs := [(.pointer (some ⟨1, 67, none⟩)), (.pointer (some ⟨g22, 0, none⟩)), (.int .u64 (150 : Int))]) 0 ag89 sz89 rfl rfl rfl) rfl ?_
 refine WL.eff (EO.extP xt43 (args1 (show ev _ _ = (.agg #[(.pointer (some ⟨1, 67, none⟩)), (.pointer (some ⟨g22, 0, none⟩)), (.int .u64 (150 : Int))]) from rfl)) (vt67_150 _)) rfl ?_
 rintro _ _ _ - ⟨rfl, rfl, rfl⟩
 refine Pa (.iface 104 (.agg #[.pointer (some ⟨1, 67, none⟩)])) rfl rfl ?_
 refine Nt ?_
 refine WC.seq ?_
 refine Sr ?_
 refine Pm (.iface 104 (.agg #[.pointer (some ⟨1, 67, none⟩)])) rfl rfl ?_
 refine WL.eff (EO.invE (show ev _ _ = (.iface 104 (.agg #[.pointer (some ⟨1, 67, none⟩)])) from rfl) (mm_Kind (.pointer (some ⟨1, 67, none⟩))) xt67 inv0 mr_Kind_67) rfl ?_
 rintro _ _ _ - ⟨rfl, rfl, rfl⟩
 refine Pu (.bool false) (PO.neqR rfl rfl (by decide)) rfl ?_
 refine Pm (.bool false) rfl rfl ?_
 refine On 20 rfl rfl rfl ?_
 refine Pu (.agg #[(.pointer (some ⟨1, 67, none⟩)), (.pointer (some ⟨g22, 0, none⟩)), (.int .u64 (150 : Int))]) (PO.loadBA (cs := [(.pointer (some ⟨1, 67, none⟩)), (.pointer (some ⟨g22, 0, none⟩)), (.int .u64 (150 : Int))]) 0 ag89 sz89 rfl rfl rfl) rfl ?_
 refine On 20 rfl rfl rfl ?_
 refine WL.eff (EO.isNil 1 xt44 pp67_150 rfl pl67 (args1 (show ev _ _ = (.agg #[(.pointer (some ⟨1, 67, none⟩)), (.pointer (some ⟨g22, 0, none⟩)), (.int .u64 (150 : Int))]) from rfl)) rfl) rfl ?_
 rintro _ _ _ - ⟨rfl, rfl, rfl⟩
 refine Pu (.bool false) (PO.pickF rfl rfl rfl) rfl ?_
 refine Nt ?_
 refine WC.condF (b := false) rfl rfl ?_
 refine WC.skip ?_
 refine WQ.thenC ?_
 refine Sr ?_
 refine Pm (.iface 104 (.agg #[.pointer (some ⟨1, 67, none⟩)])) rfl rfl ?_
 refine WL.eff (EO.invE (show ev _ _ = (.iface 104 (.agg #[.pointer (some ⟨1, 67, none⟩)])) from rfl) (mm_Elem (.pointer (some ⟨1, 67, none⟩))) xt80 inv0 mr_Elem_67) rfl ?_
 rintro _ _ _ - ⟨rfl, rfl, rfl⟩
 refine Pa (.iface 104 (.agg #[.pointer (some ⟨1, 65, none⟩)])) rfl rfl ?_
 refine Nt ?_
 refine WC.seq ?_
 refine Sr ?_
 refine Pm (.iface 104 (.agg #[.pointer (some ⟨1, 65, none⟩)])) rfl rfl ?_
 refine WL.eff (EO.invE (show ev _ _ = (.iface 104 (.agg #[.pointer (some ⟨1, 65, none⟩)])) from rfl) (mm_Kind (.pointer (some ⟨1, 65, none⟩))) xt67 inv0 mr_Kind_65) rfl ?_
 rintro _ _ _ - ⟨rfl, rfl, rfl⟩
 refine Pu (.bool true) (PO.neqR rfl rfl (by decide)) rfl ?_
 refine Pm (.bool true) rfl rfl ?_
 refine On 30 rfl rfl rfl ?_
 refine Pm (.iface 104 (.agg #[.pointer (some ⟨1, 65, none⟩)])) rfl rfl ?_
 refine On 30 rfl rfl rfl ?_
 refine Pu (.iface 104 (.agg #[.pointer (some ⟨1, 28, none⟩)])) (PO.loadG pl92 hE) rfl ?_
 refine On 30 rfl rfl rfl ?_
 refine WL.eff (EO.invE (show ev _ _ = (.iface 104 (.agg #[.pointer (some ⟨1, 65, none⟩)])) from rfl) (mm_Implements (.pointer (some ⟨1, 65, none⟩))) xt81 (inv1 rfl) mr_Implements_65_28) rfl ?_
 rintro _ _ _ - ⟨rfl, rfl, rfl⟩
 refine On 30 rfl rfl rfl ?_
 refine Pu (.bool (!true)) (PO.not rfl) rfl ?_
 refine Pu (.bool (!true)) (PO.pickT rfl rfl rfl) rfl ?_
 refine Nt ?_
 refine WC.condF (b := !true) rfl rfl ?_
 refine WC.skip ?_
 refine WQ.thenC ?_
 refine Sr ?_
 refine Pm (GV a0) (hρ 0) rfl ?_
 refine Pm (.iface 67 (.pointer (some ⟨g1, 0, none⟩))) (hρ 1) rfl ?_
 refine Pu (.agg #[(.pointer (some ⟨1, 67, none⟩)), (.pointer (some ⟨g22, 0, none⟩)), (.int .u64 (150 : Int))]) (PO.loadBA (cs := [(.pointer (some ⟨1, 67, none⟩)), (.pointer (some ⟨g22, 0, none⟩)), (.int .u64 (150 : Int))]) 0 ag89 sz89 rfl rfl rfl) rfl ?_
 refine Pm (.iface 104 (.agg #[.pointer (some ⟨1, 65, none⟩)])) rfl rfl ?_
 obtain ⟨⟨r24, r25, r26, r27⟩, hr28, h⟩ := bnd h
 refine WL.f1 ?_
 refine WL.f2 ?_
 refine WL.eff (EO.call2 co45 (f_errors_as_fault_ok a0 a1 _ _ _ (r24, r25, r26, r27) hr28) (args4 rfl rfl rfl rfl)) rfl ?_
 rintro _ M29 _ hle30 ⟨_, ⟨rfl, rfl⟩, rfl⟩
 have hE := hE.mono hle30
 refine WL.a2 ?_
 refine Pa (.bool r24) rfl rfl ?_
 refine Nt ?_
 refine WC.ret ?_
 refine WQ.f1 ?_
 refine WQ.drop ?_
 refine WQ.f1 ?_
 refine WQ.drop ?_
 exact WQ.returnsF h [[(g1, .cells #[(.string r25), (.int .i64 r26), (GV r27)] 65 (0, 0))]] rfl (results1 rfl rfl) hle30 ⟨rfl, rfl⟩

noncomputable def f_fault_Where (a0 : GErr) : Option (Int × Bool) :=
  ((f_errors_As_fault a0 (⟨(⟨#[]⟩ : ByteArray), (0 : Int), GErr.nil⟩ : T_api_Fault)).bind fun (r22, r23, r24, r25) => (if (!r22) = true then (some ((0 : Int), false)) else (some (r24, true))))
def f_fault_Where_post (a0 : GErr) : (Int × Bool) → Value → IM → HL → Prop :=
  fun (p_ : (Int × Bool)) (v : Value) (M' : IM) (H' : HL) => match p_ with | (r0, r1) => (.tuple #[(.int .i64 r0), (.bool r1)]) = v ∧ H' = []
set_option maxHeartbeats 1000000 in
set_option maxRecDepth 100000 in
theorem f_fault_Where_ok (a0 : GErr) (M : IM) (hE : Env M) (res : (Int × Bool)) (h : f_fault_Where a0 = some res) :
    Tri Tryd.prog 10 #[(GV a0)] M [] (f_fault_Where_post a0 res) := by
 unfold f_fault_Where at h
 refine Tri.enter (fn := Tryd.f10) Tryd.func10 rfl (Nat.le_of_ble_eq_true rfl) ?_
 intro F ρ hρ
 refine Sr ?_
 refine Pa (.int .i64 (0 : Int)) rfl rfl ?_
 refine Pa (.bool false) rfl rfl ?_
 refine Ns ?_
 refine WL.eff (EO.alloc ze65 rfl) rfl ?_
 rintro _ _ _ - ⟨rfl, g21, rfl, rfl⟩
 refine Nt ?_
 refine WC.seq ?_
 refine Sr ?_
 refine Pm (GV a0) (hρ 0) rfl ?_
 refine Pu (.iface 67 (.pointer (some ⟨g21, 0, none⟩))) (PO.makeInterface cc67 rfl) rfl ?_
 obtain ⟨⟨r22, r23, r24, r25⟩, hr26, h⟩ := bnd h
 refine WL.eff (EO.call1 co33 (f_errors_As_fault_ok a0 (⟨(⟨#[]⟩ : ByteArray), (0 : Int), GErr.nil⟩ : T_api_Fault) _ _ hE (r22, r23, r24, r25) hr26) (args2 rfl rfl)) rfl ?_
 rintro _ M27 _ hle28 ⟨_, ⟨rfl, rfl⟩, rfl⟩
 have hE := hE.mono hle28
 refine WL.a1 ?_
 refine Pu (.bool (!r22)) (PO.not rfl) rfl ?_
 refine Nt ?_
 refine WC.cond (b := !r22) rfl (fun hb30 => ?_) (fun hb30 => ?_)
 have h := ite_t hb30 h
 refine Sr ?_
 refine Pa (.int .i64 (0 : Int)) rfl rfl ?_
 refine Pa (.bool false) rfl rfl ?_
 refine Nt ?_
 refine WC.ret ?_
 refine WQ.thenR ?_
 refine WQ.drop ?_
 exact WQ.returnsF h [] rfl (results2 rfl rfl rfl) hle28 ⟨rfl, rfl⟩
 have h := ite_f hb30 h
 refine WC.skip ?_
 refine WQ.thenC ?_
 refine Sr ?_
 refine Pu (.pointer (some ⟨g21, 1, none⟩)) (PO.fieldAddr fo65_1 rfl rfl) rfl ?_
 refine Pu (.int .i64 r24) (PO.loadB 0 pl3 rfl rfl rfl) rfl ?_
 refine Pa (.int .i64 r24) rfl rfl ?_
 refine Pa (.bool true) rfl rfl ?_
 refine Nt ?_
 refine WC.ret ?_
 refine WQ.drop ?_
 exact WQ.returnsF h [] rfl (results2 rfl rfl rfl) hle28 ⟨rfl, rfl⟩

noncomputable def f_api_Fault_Unwrap (a0 : T_api_Fault) : Option GErr :=
  (some a0.Err)
def f_api_Fault_Unwrap_post (a0 : T_api_Fault) : GErr → Value → IM → HL → Prop :=
  fun (r0 : GErr) (v : Value) (M' : IM) (H' : HL) => (GV r0) = v ∧ H' = []
set_option maxHeartbeats 1000000 in
set_option maxRecDepth 100000 in
theorem f_api_Fault_Unwrap_ok (a0 : T_api_Fault) (M : IM) (res : GErr) (h : f_api_Fault_Unwrap a0 = some res) :
    Tri Tryd.prog 72 #[(.agg #[(.string a0.Op), (.int .i64 a0.At), (GV a0.Err)])] M [] (f_api_Fault_Unwrap_post a0 res) := by
 unfold f_api_Fault_Unwrap at h
 refine Tri.enter (fn := Tryd.f72) Tryd.func72 rfl (Nat.le_of_ble_eq_true rfl) ?_
 intro F ρ hρ
 refine Sr ?_
 refine WL.eff (EO.box (cs := #[(.string a0.Op), (.int .i64 a0.At), (GV a0.Err)]) (congrArg Value.cells (asE (.agg #[(.string a0.Op), (.int .i64 a0.At), (GV a0.Err)]) (hρ 0)))) rfl ?_
 rintro _ _ _ - ⟨rfl, g21, rfl, rfl⟩
 refine Pa (GV GErr.nil) rfl rfl ?_
 refine Ns ?_
 refine Pu (.pointer (some ⟨g21, 2, none⟩)) (PO.fieldAddr fo65_2 rfl rfl) rfl ?_
 refine Pu (GV a0.Err) (PO.loadB 0 pl28 rfl rfl rfl) rfl ?_
 refine Pa (GV a0.Err) rfl rfl ?_
 refine Nt ?_
 refine WC.ret ?_
 refine WQ.drop ?_
 exact WQ.returnsF h [] rfl (results1 rfl rfl) (IM.le.refl _) ⟨rfl, rfl⟩

noncomputable def f_errors_as_code_l0 (a1 : Int) (s_ : GErr) : Option (GErr ⊕ (Bool × Int)) :=
  match s_ with
  | x23 =>
    (match x23 with | .nil => none | .code n26 => (some (Sum.inr (true, n26))) | .fault o27 a28 e29 => ((f_api_Fault_Unwrap (⟨o27, a28, e29⟩ : T_api_Fault)).bind fun (r32 : GErr) => (if r32.isNil = true then (some (Sum.inr (false, a1))) else (some (Sum.inl r32)))) | .other b30 => (some (Sum.inr (false, a1))))
noncomputable def f_errors_as_code (a0 : GErr) (a1 : Int) : Option (Bool × Int) :=
  ((iter (f_errors_as_code_l0 a1) a0).bind (fun (x24, x25) => (some (x24, x25))))
def f_errors_as_code_post (a0 : GErr) (a1 : Int) (g1 g2 : Nat) : (Bool × Int) → Value → IM → HL → Prop :=
  fun (p_ : (Bool × Int)) (v : Value) (M' : IM) (H' : HL) => match p_ with | (r0, r1) => (.bool r0) = v ∧ H' = [[(g1, .cells #[(.int .i64 r1)] 35 (0, 0))], [(g2, .cells #[(.pointer (some ⟨g1, 0, none⟩))] 68 (0, 0))]]
set_option maxHeartbeats 1000000 in
set_option maxRecDepth 100000 in
theorem f_errors_as_code_ok (a0 : GErr) (a1 : Int) (M : IM) (g1 g2 : Nat) (res : (Bool × Int)) (h : f_errors_as_code a0 a1 = some res) :
    Tri Tryd.prog 45 #[(GV a0), (.iface 68 (.pointer (some ⟨g1, 0, none⟩))), (.agg #[(.pointer (some ⟨1, 68, none⟩)), (.pointer (some ⟨g2, 0, none⟩)), (.int .u64 (150 : Int))]), (.iface 104 (.agg #[.pointer (some ⟨1, 35, none⟩)]))] M [[(g1, .cells #[(.int .i64 a1)] 35 (0, 0))], [(g2, .cells #[(.pointer (some ⟨g1, 0, none⟩))] 68 (0, 0))]] (f_errors_as_code_post a0 a1 g1 g2 res) := by
 unfold f_errors_as_code at h
 refine Tri.enter (fn := Tryd.f45) Tryd.func45 rfl (Nat.le_of_ble_eq_true rfl) ?_
 intro F ρ hρ
 refine Sr ?_
 refine WL.eff (EO.box (cs := #[(.pointer (some ⟨1, 68, none⟩)), (.pointer (some ⟨g2, 0, none⟩)), (.int .u64 (150 : Int))]) (congrArg Value.cells (asE (.agg #[(.pointer (some ⟨1, 68, none⟩)), (.pointer (some ⟨g2, 0, none⟩)), (.int .u64 (150 : Int))]) (hρ 2)))) rfl ?_
 rintro _ _ _ - ⟨rfl, g21, rfl, rfl⟩
 refine Pa (.bool false) rfl rfl ?_
 refine Nt ?_
 refine WC.block ?_
 obtain ⟨e22, he22, hK22⟩ := bnd h
 clear h
 refine WC.loop he22 (fun (x23 : GErr) ρ' M' H' => M.le M' ∧ [(g21, .cells #[(.pointer (some ⟨1, 68, none⟩)), (.pointer (some ⟨g2, 0, none⟩)), (.int .u64 (150 : Int))] 89 (0, 0))] :: [(g1, .cells #[(.int .i64 a1)] 35 (0, 0))] :: [(g2, .cells #[(.pointer (some ⟨g1, 0, none⟩))] 68 (0, 0))] :: F = H' ∧ ρ' 0 = (GV x23) ∧ ρ' 1 = (.iface 68 (.pointer (some ⟨g1, 0, none⟩))) ∧ ρ' 3 = (.iface 104 (.agg #[.pointer (some ⟨1, 35, none⟩)])) ∧ ρ' 6 = (.pointer (some ⟨g21, 0, none⟩))) ?_ ?_
 exact ⟨(IM.le.refl _), rfl, (hρ 0), (hρ 1), (hρ 3), rfl⟩
 rintro x23 o22 ρ22 M22 H22 h ⟨hle22, rfl, hs22_0, hs22_1, hs22_3, hs22_6⟩
 unfold f_errors_as_code_l0 at h
 refine WC.block ?_
 refine WC.seq ?_
 refine Sr ?_
 refine Pm (GV x23) hs22_0 rfl ?_
 rcases x23 with _ | n26 | ⟨o27, a28, e29⟩ | b30
 refine WL.eff (EO.extP xt49 (args1 (show ev _ _ = .nilIface from rfl)) tyNil) rfl ?_
 rintro _ _ _ - ⟨rfl, rfl, rfl⟩
 refine Pm (.iface 104 (.agg #[.pointer (some ⟨1, 35, none⟩)])) hs22_3 rfl ?_
 exact nones h
 refine WL.eff (EO.extP xt49 (args1 (show ev _ _ = (.iface 35 (.int .i64 n26)) from rfl)) (ty35 _)) rfl ?_
 rintro _ _ _ - ⟨rfl, rfl, rfl⟩
 refine Pm (.iface 104 (.agg #[.pointer (some ⟨1, 35, none⟩)])) hs22_3 rfl ?_
 refine WL.eff (EO.invE (show ev _ _ = (.iface 104 (.agg #[.pointer (some ⟨1, 35, none⟩)])) from rfl) (mm_AssignableTo (.pointer (some ⟨1, 35, none⟩))) xt78 (inv1 rfl) mr_AssignableTo_35_35) rfl ?_
 rintro _ _ _ - ⟨rfl, rfl, rfl⟩
 refine Nt ?_
 refine WC.condT (b := true) rfl rfl ?_
 refine Sr ?_
 refine Pu (.agg #[(.pointer (some ⟨1, 68, none⟩)), (.pointer (some ⟨g2, 0, none⟩)), (.int .u64 (150 : Int))]) (PO.loadBA (cs := [(.pointer (some ⟨1, 68, none⟩)), (.pointer (some ⟨g2, 0, none⟩)), (.int .u64 (150 : Int))]) 0 ag89 sz89 hs22_6 rfl rfl) rfl ?_
 refine WL.eff (EO.rvElem (r := fun p => .agg #[(.pointer (some ⟨1, 35, none⟩)), .pointer (some p), .int .u64 386]) 2 xt51 pp68_150 rfl pl68 el68 mk35 (args1 (show ev _ _ = (.agg #[(.pointer (some ⟨1, 68, none⟩)), (.pointer (some ⟨g2, 0, none⟩)), (.int .u64 (150 : Int))]) from rfl)) rfl) rfl ?_
 rintro _ _ _ - ⟨rfl, rfl, rfl⟩
 refine Pm (GV (GErr.code n26)) hs22_0 rfl ?_
 refine WL.eff (EO.valueOf xt42 (args1 (show ev _ _ = (.iface 35 (.int .i64 n26)) from rfl)) (vo35 n26)) rfl ?_
 rintro _ _ _ - ⟨rfl, g31, rfl, rfl⟩
 refine WL.f2 ?_
 refine WL.eff (EO.rvSet (arr := [(.int .i64 a1)]) (vl := [(.int .i64 n26)]) (v := (.int .i64 n26)) xt52 pp35_386 pp35_130 rfl da35 (args2 (show ev _ _ = (.agg #[(.pointer (some ⟨1, 35, none⟩)), (.pointer (some ⟨g1, 0, none⟩)), (.int .u64 (386 : Int))]) from rfl) (show ev _ _ = (.agg #[(.pointer (some ⟨1, 35, none⟩)), (.pointer (some ⟨g31, 0, none⟩)), (.int .u64 (130 : Int))]) from rfl)) (fun _ hs => run_loadPlain pl35 (hs.cellC 1 rfl (chunkCell_lit.trans rfl))) rfl sz35 rfl (onesOf (Ones.cons rfl Ones.nil))) rfl ?_
 rintro _ _ _ - ⟨rfl, rfl, rfl⟩
 refine Ns ?_
 refine Pa (.bool true) rfl rfl ?_
 refine Nt ?_
 refine WC.ret ?_
 refine WQ.thenR ?_
 refine WQ.blockR ?_
 refine WQ.leaveR (true, n26) (Option.some.inj h).symm (fun heq22 => ?_)
 subst heq22
 have h := hK22
 refine WQ.blockR ?_
 refine WQ.f1 ?_
 refine WQ.drop ?_
 refine WQ.f1 ?_
 refine WQ.drop ?_
 exact WQ.returnsF h [[(g1, .cells #[(.int .i64 n26)] 35 (0, 0))], [(g2, .cells #[(.pointer (some ⟨g1, 0, none⟩))] 68 (0, 0))]] rfl (results1 rfl rfl) hle22 ⟨rfl, rfl⟩
 refine WL.eff (EO.extP xt49 (args1 (show ev _ _ = (.iface 65 (.agg #[.string o27, .int .i64 a28, GV e29])) from rfl)) (ty65 _)) rfl ?_
 rintro _ _ _ - ⟨rfl, rfl, rfl⟩
 refine Pm (.iface 104 (.agg #[.pointer (some ⟨1, 35, none⟩)])) hs22_3 rfl ?_
 refine WL.eff (EO.invE (show ev _ _ = (.iface 104 (.agg #[.pointer (some ⟨1, 65, none⟩)])) from rfl) (mm_AssignableTo (.pointer (some ⟨1, 65, none⟩))) xt78 (inv1 rfl) mr_AssignableTo_65_35) rfl ?_
 rintro _ _ _ - ⟨rfl, rfl, rfl⟩
 refine Nt ?_
 refine WC.condF (b := false) rfl rfl ?_
 refine WC.skip ?_
 refine WQ.thenC ?_
 refine WC.seq ?_
 refine Sr ?_
 refine Pm (GV (GErr.fault o27 a28 e29)) hs22_0 rfl ?_
 refine Pu (.tuple #[.nilIface, (.bool false)]) (PO.asserts (show ev _ _ = (.iface 65 (.agg #[.string o27, .int .i64 a28, GV e29])) from rfl) (la65_108 _ _)) rfl ?_
 refine Pm (.tuple #[.nilIface, (.bool false)]) rfl rfl ?_
 refine Pu .nilIface (PO.extract rfl rfl) rfl ?_
 refine Pu (.bool false) (PO.extract rfl rfl) rfl ?_
 refine Pa .nilIface rfl rfl ?_
 refine Pa (.bool false) rfl rfl ?_
 refine Ns ?_
 refine Pm (.bool false) rfl rfl ?_
 refine Pm (.bool false) rfl rfl ?_
 iterate 3 refine Of 31 rfl rfl rfl rfl ?_
 refine Pu (.bool false) (PO.pickF rfl rfl rfl) rfl ?_
 refine Nt ?_
 refine WC.condF (b := false) rfl rfl ?_
 refine WC.skip ?_
 refine WQ.thenC ?_
 refine Sr ?_
 refine Pm (GV (GErr.fault o27 a28 e29)) hs22_0 rfl ?_
 refine Nt ?_
 refine WC.block ?_
 refine Sr ?_
 refine Pu (.tuple #[(GV (GErr.fault o27 a28 e29)), (.bool true)]) (PO.asserts (show ev _ _ = (.iface 65 (.agg #[.string o27, .int .i64 a28, GV e29])) from rfl) (ha65_111 _ _)) rfl ?_
 refine Pu (.bool true) (PO.extract rfl rfl) rfl ?_
 refine Pu (GV (GErr.fault o27 a28 e29)) (PO.extract rfl rfl) rfl ?_
 refine Nt ?_
 refine WC.condT (b := true) rfl rfl ?_
 refine Sr ?_
 refine Pa (GV (GErr.fault o27 a28 e29)) rfl rfl ?_
 refine Ns ?_
 refine Pm (GV (GErr.fault o27 a28 e29)) rfl rfl ?_
 obtain ⟨r32, hr33, h⟩ := bnd h
 refine WL.eff (EO.invT (show ev _ _ = (.iface 65 (.agg #[.string o27, .int .i64 a28, GV e29])) from rfl) (me65_Unwrap _) co72 inv0 (f_api_Fault_Unwrap_ok (⟨o27, a28, e29⟩ : T_api_Fault) _ r32 hr33)) rfl ?_
 rintro _ M34 _ hle35 ⟨_, ⟨rfl, rfl⟩, rfl⟩
 refine WL.a0 ?_
 refine Pa (GV r32) rfl rfl ?_
 refine Ns ?_
 refine Pm (GV r32) rfl rfl ?_
 refine Pu (.bool r32.isNil) (PO.errNil Tryd.underlying28 rfl) rfl ?_
 refine Nt ?_
 refine WC.cond (b := r32.isNil) rfl (fun hb37 => ?_) (fun hb37 => ?_)
 have h := ite_t hb37 h
 refine Sr ?_
 refine Pa (.bool false) rfl rfl ?_
 refine Nt ?_
 refine WC.ret ?_
 refine WQ.blockR ?_
 refine WQ.blockR ?_
 refine WQ.leaveR (false, a1) (Option.some.inj h).symm (fun heq22 => ?_)
 subst heq22
 have h := hK22
 refine WQ.blockR ?_
 refine WQ.drop ?_
 exact WQ.returnsF h [[(g1, .cells #[(.int .i64 a1)] 35 (0, 0))], [(g2, .cells #[(.pointer (some ⟨g1, 0, none⟩))] 68 (0, 0))]] rfl (results1 rfl rfl) (hle22.trans hle35) ⟨rfl, rfl⟩
 have h := ite_f hb37 h
 refine WC.skip ?_
 refine WQ.blockN ?_
 refine WQ.blockN ?_
 refine WQ.again r32 (Option.some.inj h).symm ?_
 exact ⟨(hle22.trans hle35), rfl, rfl, hs22_1, hs22_3, hs22_6⟩
 refine WL.eff (EO.extP xt49 (args1 (show ev _ _ = (.iface 83 (.pointer (some b30))) from rfl)) (ty83 _)) rfl ?_
 rintro _ _ _ - ⟨rfl, rfl, rfl⟩
 refine Pm (.iface 104 (.agg #[.pointer (some ⟨1, 35, none⟩)])) hs22_3 rfl ?_
 refine WL.eff (EO.invE (show ev _ _ = (.iface 104 (.agg #[.pointer (some ⟨1, 83, none⟩)])) from rfl) (mm_AssignableTo (.pointer (some ⟨1, 83, none⟩))) xt78 (inv1 rfl) mr_AssignableTo_83_35) rfl ?_
 rintro _ _ _ - ⟨rfl, rfl, rfl⟩
 refine Nt ?_
 refine WC.condF (b := false) rfl rfl ?_
 refine WC.skip ?_
 refine WQ.thenC ?_
 refine WC.seq ?_
 refine Sr ?_
 refine Pm (GV (GErr.other b30)) hs22_0 rfl ?_
 refine Pu (.tuple #[.nilIface, (.bool false)]) (PO.asserts (show ev _ _ = (.iface 83 (.pointer (some b30))) from rfl) (la83_108 _ _)) rfl ?_
 refine Pm (.tuple #[.nilIface, (.bool false)]) rfl rfl ?_
 refine Pu .nilIface (PO.extract rfl rfl) rfl ?_
 refine Pu (.bool false) (PO.extract rfl rfl) rfl ?_
 refine Pa .nilIface rfl rfl ?_
 refine Pa (.bool false) rfl rfl ?_
 refine Ns ?_
 refine Pm (.bool false) rfl rfl ?_
 refine Pm (.bool false) rfl rfl ?_
 iterate 3 refine Of 31 rfl rfl rfl rfl ?_
 refine Pu (.bool false) (PO.pickF rfl rfl rfl) rfl ?_
 refine Nt ?_
 refine WC.condF (b := false) rfl rfl ?_
 refine WC.skip ?_
 refine WQ.thenC ?_
 refine Sr ?_
 refine Pm (GV (GErr.other b30)) hs22_0 rfl ?_
 refine Nt ?_
 refine WC.block ?_
 refine Sr ?_
 refine Pu (.tuple #[.nilIface, (.bool false)]) (PO.asserts (show ev _ _ = (.iface 83 (.pointer (some b30))) from rfl) (la83_111 _ _)) rfl ?_
 refine Pu (.bool false) (PO.extract rfl rfl) rfl ?_
 refine Pu .nilIface (PO.extract rfl rfl) rfl ?_
 refine Nt ?_
 refine WC.condF (b := false) rfl rfl ?_
 refine Sr ?_
 refine Pu (.tuple #[.nilIface, (.bool false)]) (PO.asserts (show ev _ _ = (.iface 83 (.pointer (some b30))) from rfl) (la83_113 _ _)) rfl ?_
 refine Pu (.bool false) (PO.extract rfl rfl) rfl ?_
 refine Pu .nilIface (PO.extract rfl rfl) rfl ?_
 refine Nt ?_
 refine WC.condF (b := false) rfl rfl ?_
 refine Sr ?_
 refine Pa (GV (GErr.other b30)) rfl rfl ?_
 refine Ns ?_
 refine Pa (.bool false) rfl rfl ?_
 refine Nt ?_
 refine WC.ret ?_
 refine WQ.blockR ?_
 refine WQ.blockR ?_
 refine WQ.leaveR (false, a1) (Option.some.inj h).symm (fun heq22 => ?_)
 subst heq22
 have h := hK22
 refine WQ.blockR ?_
 refine WQ.drop ?_
 exact WQ.returnsF h [[(g1, .cells #[(.int .i64 a1)] 35 (0, 0))], [(g2, .cells #[(.pointer (some ⟨g1, 0, none⟩))] 68 (0, 0))]] rfl (results1 rfl rfl) hle22 ⟨rfl, rfl⟩

noncomputable def f_errors_As_code (a0 : GErr) (a1 : Int) : Option (Bool × Int) :=
  (if a0.isNil = true then (some (false, a1)) else ((f_errors_as_code a0 a1).bind fun (r24, r25) => (some (r24, r25))))
def f_errors_As_code_post (a0 : GErr) (a1 : Int) (g1 : Nat) : (Bool × Int) → Value → IM → HL → Prop :=
  fun (p_ : (Bool × Int)) (v : Value) (M' : IM) (H' : HL) => match p_ with | (r0, r1) => (.bool r0) = v ∧ H' = [[(g1, .cells #[(.int .i64 r1)] 35 (0, 0))]]
set_option maxHeartbeats 1000000 in
set_option maxRecDepth 100000 in
theorem f_errors_As_code_ok (a0 : GErr) (a1 : Int) (M : IM) (g1 : Nat) (hE : Env M) (res : (Bool × Int)) (h : f_errors_As_code a0 a1 = some res) :
    Tri Tryd.prog 33 #[(GV a0), (.iface 68 (.pointer (some ⟨g1, 0, none⟩)))] M [[(g1, .cells #[(.int .i64 a1)] 35 (0, 0))]] (f_errors_As_code_post a0 a1 g1 res) := by
 unfold f_errors_As_code at h
 refine Tri.enter (fn := Tryd.f33) Tryd.func33 rfl (Nat.le_of_ble_eq_true rfl) ?_
 intro F ρ hρ
 refine Sr ?_
 refine Pa (.bool false) rfl rfl ?_
 refine Nt ?_
 refine WC.seq ?_
 refine Sr ?_
 refine Pm (GV a0) (hρ 0) rfl ?_
 refine Pu (.bool a0.isNil) (PO.errNil Tryd.underlying28 rfl) rfl ?_
 refine Nt ?_
 refine WC.cond (b := a0.isNil) rfl (fun hb21 => ?_) (fun hb21 => ?_)
 have h := ite_t hb21 h
 refine Sr ?_
 refine Pa (.bool false) rfl rfl ?_
 refine Nt ?_
 refine WC.ret ?_
 refine WQ.thenR ?_
 exact WQ.returnsF h [[(g1, .cells #[(.int .i64 a1)] 35 (0, 0))]] rfl (results1 rfl rfl) (IM.le.refl _) ⟨rfl, rfl⟩
 have h := ite_f hb21 h
 refine WC.skip ?_
 refine WQ.thenC ?_
 refine WC.seq ?_
 refine Sr ?_
 refine Pm (.iface 68 (.pointer (some ⟨g1, 0, none⟩))) (hρ 1) rfl ?_
 refine Pu (.bool false) (PO.ifcNil Tryd.underlying20 rfl) rfl ?_
 refine Nt ?_
 refine WC.condF (b := false) rfl rfl ?_
 refine WC.skip ?_
 refine WQ.thenC ?_
 refine Sr ?_
 refine Pm (.iface 68 (.pointer (some ⟨g1, 0, none⟩))) (hρ 1) rfl ?_
 refine WL.eff (EO.valueOf xt42 (args1 (show ev _ _ = (.iface 68 (.pointer (some ⟨g1, 0, none⟩))) from rfl)) (vo68 ⟨g1, 0, none⟩)) rfl ?_
 rintro _ _ _ - ⟨rfl, g22, rfl, rfl⟩
 refine WL.eff (EO.alloc ze89 rfl) rfl ?_
 rintro _ _ _ - ⟨rfl, g23, rfl, rfl⟩
 refine WL.eff (EO.storeL (v := (.agg #[(.pointer (some ⟨1, 68, none⟩)), (.pointer (some ⟨g22, 0, none⟩)), (.int .u64 (150 : Int))])) (vl := [(.pointer (some ⟨1, 68, none⟩)), (.pointer (some ⟨g22, 0, none⟩)), (.int .u64 (150 : Int))]) (arr' := [(.pointer (some ⟨1, 68, none⟩)), (.pointer (some ⟨g22, 0, none⟩)), (.int .u64 (150 : Int))]) rfl sz89 rfl rfl (onesOf (Ones.cons rfl (Ones.cons rfl (Ones.cons rfl Ones.nil)))) rfl rfl rfl) rfl ?_
 rintro _ _ _ - ⟨rfl, rfl⟩
 refine Ns ?_
 refine Pu (.agg #[(.pointer (some ⟨1, 68, none⟩)), (.pointer (some ⟨g22, 0, none⟩)), (.int .u64 (150 : Int))]) (PO.loadBA (cs := [(.pointer (some ⟨1, 68, none⟩)), (.pointer (some ⟨g22, 0, none⟩)), (.int .u64 (150 : Int))]) 0 ag89 sz89 rfl rfl rfl) rfl ?_
 refine WL.eff (EO.extP xt43 (args1 (show ev _ _ = (.agg #[(.pointer (some ⟨1, 68, none⟩)), (.pointer (some ⟨g22, 0, none⟩)), (.int .u64 (150 : Int))]) from rfl)) (vt68_150 _)) rfl ?_
 rintro _ _ _ - ⟨rfl, rfl, rfl⟩
 refine Pa (.iface 104 (.agg #[.pointer (some ⟨1, 68, none⟩)])) rfl rfl ?_
 refine Nt ?_
 refine WC.seq ?_
 refine Sr ?_
 refine Pm (.iface 104 (.agg #[.pointer (some ⟨1, 68, none⟩)])) rfl rfl ?_
 refine WL.eff (EO.invE (show ev _ _ = (.iface 104 (.agg #[.pointer (some ⟨1, 68, none⟩)])) from rfl) (mm_Kind (.pointer (some ⟨1, 68, none⟩))) xt67 inv0 mr_Kind_68) rfl ?_
 rintro _ _ _ - ⟨rfl, rfl, rfl⟩
 refine Pu (.bool false) (PO.neqR rfl rfl (by decide)) rfl ?_
 refine Pm (.bool false) rfl rfl ?_
 refine On 20 rfl rfl rfl ?_
 refine Pu (.agg #[(.pointer (some ⟨1, 68, none⟩)), (.pointer (some ⟨g22, 0, none⟩)), (.int .u64 (150 : Int))]) (PO.loadBA (cs := [(.pointer (some ⟨1, 68, none⟩)), (.pointer (some ⟨g22, 0, none⟩)), (.int .u64 (150 : Int))]) 0 ag89 sz89 rfl rfl rfl) rfl ?_
 refine On 20 rfl rfl rfl ?_
 refine WL.eff (EO.isNil 1 xt44 pp68_150 rfl pl68 (args1 (show ev _ _ = (.agg #[(.pointer (some ⟨1, 68, none⟩)), (.pointer (some ⟨g22, 0, none⟩)), (.int .u64 (150 : Int))]) from rfl)) rfl) rfl ?_
 rintro _ _ _ - ⟨rfl, rfl, rfl⟩
 refine Pu (.bool false) (PO.pickF rfl rfl rfl) rfl ?_
 refine Nt ?_
 refine WC.condF (b := false) rfl rfl ?_
 refine WC.skip ?_
 refine WQ.thenC ?_
 refine Sr ?_
 refine Pm (.iface 104 (.agg #[.pointer (some ⟨1, 68, none⟩)])) rfl rfl ?_
 refine WL.eff (EO.invE (show ev _ _ = (.iface 104 (.agg #[.pointer (some ⟨1, 68, none⟩)])) from rfl) (mm_Elem (.pointer (some ⟨1, 68, none⟩))) xt80 inv0 mr_Elem_68) rfl ?_
 rintro _ _ _ - ⟨rfl, rfl, rfl⟩
 refine Pa (.iface 104 (.agg #[.pointer (some ⟨1, 35, none⟩)])) rfl rfl ?_
 refine Nt ?_
 refine WC.seq ?_
 refine Sr ?_
 refine Pm (.iface 104 (.agg #[.pointer (some ⟨1, 35, none⟩)])) rfl rfl ?_
 refine WL.eff (EO.invE (show ev _ _ = (.iface 104 (.agg #[.pointer (some ⟨1, 35, none⟩)])) from rfl) (mm_Kind (.pointer (some ⟨1, 35, none⟩))) xt67 inv0 mr_Kind_35) rfl ?_
 rintro _ _ _ - ⟨rfl, rfl, rfl⟩
 refine Pu (.bool true) (PO.neqR rfl rfl (by decide)) rfl ?_
 refine Pm (.bool true) rfl rfl ?_
 refine On 30 rfl rfl rfl ?_
 refine Pm (.iface 104 (.agg #[.pointer (some ⟨1, 35, none⟩)])) rfl rfl ?_
 refine On 30 rfl rfl rfl ?_
 refine Pu (.iface 104 (.agg #[.pointer (some ⟨1, 28, none⟩)])) (PO.loadG pl92 hE) rfl ?_
 refine On 30 rfl rfl rfl ?_
 refine WL.eff (EO.invE (show ev _ _ = (.iface 104 (.agg #[.pointer (some ⟨1, 35, none⟩)])) from rfl) (mm_Implements (.pointer (some ⟨1, 35, none⟩))) xt81 (inv1 rfl) mr_Implements_35_28) rfl ?_
 rintro _ _ _ - ⟨rfl, rfl, rfl⟩
 refine On 30 rfl rfl rfl ?_
 refine Pu (.bool (!true)) (PO.not rfl) rfl ?_
 refine Pu (.bool (!true)) (PO.pickT rfl rfl rfl) rfl ?_
 refine Nt ?_
 refine WC.condF (b := !true) rfl rfl ?_
 refine WC.skip ?_
 refine WQ.thenC ?_
 refine Sr ?_
 refine Pm (GV a0) (hρ 0) rfl ?_
 refine Pm (.iface 68 (.pointer (some ⟨g1, 0, none⟩))) (hρ 1) rfl ?_
 refine Pu (.agg #[(.pointer (some ⟨1, 68, none⟩)), (.pointer (some ⟨g22, 0, none⟩)), (.int .u64 (150 : Int))]) (PO.loadBA (cs := [(.pointer (some ⟨1, 68, none⟩)), (.pointer (some ⟨g22, 0, none⟩)), (.int .u64 (150 : Int))]) 0 ag89 sz89 rfl rfl rfl) rfl ?_
 refine Pm (.iface 104 (.agg #[.pointer (some ⟨1, 35, none⟩)])) rfl rfl ?_
 obtain ⟨⟨r24, r25⟩, hr26, h⟩ := bnd h
 refine WL.f1 ?_
 refine WL.f2 ?_
 refine WL.eff (EO.call2 co45 (f_errors_as_code_ok a0 a1 _ _ _ (r24, r25) hr26) (args4 rfl rfl rfl rfl)) rfl ?_
 rintro _ M27 _ hle28 ⟨_, ⟨rfl, rfl⟩, rfl⟩
 have hE := hE.mono hle28
 refine WL.a2 ?_
 refine Pa (.bool r24) rfl rfl ?_
 refine Nt ?_
 refine WC.ret ?_
 refine WQ.f1 ?_
 refine WQ.drop ?_
 refine WQ.f1 ?_
 refine WQ.drop ?_
 exact WQ.returnsF h [[(g1, .cells #[(.int .i64 r25)] 35 (0, 0))]] rfl (results1 rfl rfl) hle28 ⟨rfl, rfl⟩


end Go.Proofs.YtmifmgpfjamdkaaDoor.G
