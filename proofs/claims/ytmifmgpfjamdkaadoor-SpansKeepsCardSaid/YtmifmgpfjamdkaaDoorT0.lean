/- Go functions: what they come to, and that they do. Printed by a program of the session (gen). -/
import Derived.Test.YtmifmgpfjamdkaaDoorTF
set_option linter.unusedVariables false
set_option linter.unusedSimpArgs false
namespace Go.Proofs.YtmifmgpfjamdkaaDoor.G
open Go Go.KK

noncomputable def f_spans_EndOf_1 (a0 : T_api_Span) (a1 : Int) : Option Int :=
  (if (decide (a0.Term ≤ a1)) = true then (some (-1 : Int)) else (some (1 : Int)))
def f_spans_EndOf_1_post (a0 : T_api_Span) (a1 : Int) : Int → Value → IM → HL → Prop :=
  fun (r0 : Int) (v : Value) (M' : IM) (H' : HL) => (.int .i64 r0) = v ∧ H' = []
set_option maxHeartbeats 1000000 in
set_option maxRecDepth 100000 in
theorem f_spans_EndOf_1_ok (a0 : T_api_Span) (a1 : Int) (M : IM) (res : Int) (h : f_spans_EndOf_1 a0 a1 = some res) :
    Tri Tryd.prog 47 #[(.agg #[(.int .i64 a0.Term), (.int .i64 a0.Start)]), (.int .i64 a1)] M [] (f_spans_EndOf_1_post a0 a1 res) := by
 unfold f_spans_EndOf_1 at h
 refine Tri.enter (fn := Tryd.f47) Tryd.func47 rfl (Nat.le_of_ble_eq_true rfl) ?_
 intro F ρ hρ
 refine Sr ?_
 refine WL.eff (EO.box (cs := #[(.int .i64 a0.Term), (.int .i64 a0.Start)]) (congrArg Value.cells (asE (.agg #[(.int .i64 a0.Term), (.int .i64 a0.Start)]) (hρ 0)))) rfl ?_
 rintro _ _ _ - ⟨rfl, g21, rfl, rfl⟩
 refine Pa (.int .i64 (0 : Int)) rfl rfl ?_
 refine Nt ?_
 refine WC.seq ?_
 refine Sr ?_
 refine Pu (.pointer (some ⟨g21, 0, none⟩)) (PO.fieldAddr fo73_0 rfl rfl) rfl ?_
 refine Pu (.int .i64 a0.Term) (PO.loadB 0 pl3 rfl rfl rfl) rfl ?_
 refine Pm (.int .i64 a1) (hρ 1) rfl ?_
 refine Pu (.bool (decide (a0.Term ≤ a1))) (PO.leq rfl rfl) rfl ?_
 refine Nt ?_
 refine WC.cond (b := decide (a0.Term ≤ a1)) rfl (fun hb22 => ?_) (fun hb22 => ?_)
 have h := ite_t hb22 h
 refine Sr ?_
 refine Pa (.int .i64 (-1 : Int)) rfl rfl ?_
 refine Nt ?_
 refine WC.ret ?_
 refine WQ.thenR ?_
 refine WQ.drop ?_
 exact WQ.returnsF h [] rfl (results1 rfl rfl) (IM.le.refl _) ⟨rfl, rfl⟩
 have h := ite_f hb22 h
 refine WC.skip ?_
 refine WQ.thenC ?_
 refine Sr ?_
 refine Pa (.int .i64 (1 : Int)) rfl rfl ?_
 refine Nt ?_
 refine WC.ret ?_
 refine WQ.drop ?_
 exact WQ.returnsF h [] rfl (results1 rfl rfl) (IM.le.refl _) ⟨rfl, rfl⟩

noncomputable def f_slices_BinarySearchFunc_api_Span_api_Span_int_47_l0 (a0 : (List T_api_Span)) (a1 : Int) (s_ : (Int × Int)) : Option ((Int × Int) ⊕ Int) :=
  match s_ with
  | (x24, x25) =>
    (if (decide (x24 < x25)) = true then (grd (0 ≤ IntKind.i64.wrap (shrI .u64 (IntKind.u64.wrap (IntKind.i64.wrap (x24 + x25))) (1 : Int)) ∧ IntKind.i64.wrap (shrI .u64 (IntKind.u64.wrap (IntKind.i64.wrap (x24 + x25))) (1 : Int)) < a0.length) ((f_spans_EndOf_1 (rd a0 (IntKind.i64.wrap (shrI .u64 (IntKind.u64.wrap (IntKind.i64.wrap (x24 + x25))) (1 : Int)))) a1).bind fun (r35 : Int) => (if (decide (r35 < (0 : Int))) = true then (some (Sum.inl (IntKind.i64.wrap ((IntKind.i64.wrap (shrI .u64 (IntKind.u64.wrap (IntKind.i64.wrap (x24 + x25))) (1 : Int))) + (1 : Int)), x25))) else (some (Sum.inl (x24, IntKind.i64.wrap (shrI .u64 (IntKind.u64.wrap (IntKind.i64.wrap (x24 + x25))) (1 : Int)))))))) else (some (Sum.inr x24)))
noncomputable def f_slices_BinarySearchFunc_api_Span_api_Span_int_47 (a0 : (List T_api_Span)) (a1 : Int) : Option (Int × Bool) :=
  ((((iter (f_slices_BinarySearchFunc_api_Span_api_Span_int_47_l0 a0 a1) ((0 : Int), (a0.length : Int))).bind (fun (x26 : Int) => (some x26))) : Option Int).bind fun (x21 : Int) => (((if (decide (x21 < (a0.length : Int))) = true then (grd (0 ≤ x21 ∧ x21 < a0.length) ((f_spans_EndOf_1 (rd a0 x21) a1).bind fun (r52 : Int) => (some (x21, decide (r52 = (0 : Int)))))) else (some (x21, false))) : Option (Int × Bool)).bind fun (x41, x42) => (some (x41, x42))))
def f_slices_BinarySearchFunc_api_Span_api_Span_int_47_post (a0 : (List T_api_Span)) (a1 : Int) (v0 : Value) : (Int × Bool) → Value → IM → HL → Prop :=
  fun (p_ : (Int × Bool)) (v : Value) (M' : IM) (H' : HL) => match p_ with | (r0, r1) => (.tuple #[(.int .i64 r0), (.bool r1)]) = v ∧ H' = []
set_option maxHeartbeats 1000000 in
set_option maxRecDepth 100000 in
theorem f_slices_BinarySearchFunc_api_Span_api_Span_int_47_ok (a0 : (List T_api_Span)) (a1 : Int) (M : IM) (v0 : Value) (h0 : RS kd_api_Span M v0 a0) (res : (Int × Bool)) (h : f_slices_BinarySearchFunc_api_Span_api_Span_int_47 a0 a1 = some res) :
    Tri Tryd.prog 46 #[v0, (.int .i64 a1), (.func (.func 47) #[] #[])] M [] (f_slices_BinarySearchFunc_api_Span_api_Span_int_47_post a0 a1 v0 res) := by
 unfold f_slices_BinarySearchFunc_api_Span_api_Span_int_47 at h
 refine Tri.enter (fn := Tryd.f46) Tryd.func46 rfl (Nat.le_of_ble_eq_true rfl) ?_
 intro F ρ hρ
 refine Sr ?_
 refine Pa (.int .i64 (0 : Int)) rfl rfl ?_
 refine Pa (.bool false) rfl rfl ?_
 refine Ns ?_
 refine Pm v0 (hρ 0) rfl ?_
 refine Pu (.int .i64 (a0.length : Int)) (PO.lenS Tryd.underlying45 rfl h0.len) rfl ?_
 refine Pa (.int .i64 (a0.length : Int)) rfl rfl ?_
 refine Ns ?_
 refine Pm (.int .i64 (a0.length : Int)) rfl rfl ?_
 refine Pa (.int .i64 (0 : Int)) rfl rfl ?_
 refine Pa (.int .i64 (a0.length : Int)) rfl rfl ?_
 refine Nt ?_
 obtain ⟨x21, hj22, h⟩ := bnd h
 refine WC.joinF (fun (x21 : Int) ρ' M' H' => M.le M' ∧ F = H' ∧ ρ' 0 = v0 ∧ ρ' 1 = (.int .i64 a1) ∧ ρ' 2 = (.func (.func 47) #[] #[]) ∧ ρ' 8 = (.int .i64 (a0.length : Int)) ∧ ρ' 9 = (.int .i64 x21)) x21 ?_ ?_
 have h322 := h
 have h := hj22
 refine WC.block ?_
 obtain ⟨e23, he23, hK23⟩ := bnd h
 clear h
 refine WC.loop he23 (fun (p_ : (Int × Int)) ρ' M' H' => match p_ with | (x24, x25) => M.le M' ∧ F = H' ∧ ρ' 0 = v0 ∧ ρ' 1 = (.int .i64 a1) ∧ ρ' 2 = (.func (.func 47) #[] #[]) ∧ ρ' 8 = (.int .i64 (a0.length : Int)) ∧ ρ' 9 = (.int .i64 x24) ∧ ρ' 10 = (.int .i64 x25)) ?_ ?_
 exact ⟨(IM.le.refl _), rfl, (hρ 0), (hρ 1), (hρ 2), rfl, rfl, rfl⟩
 rintro ⟨x24, x25⟩ o23 ρ23 M23 H23 h ⟨hle23, rfl, hs23_0, hs23_1, hs23_2, hs23_8, hs23_9, hs23_10⟩
 unfold f_slices_BinarySearchFunc_api_Span_api_Span_int_47_l0 at h
 have h0 := h0.mono hle23
 refine WC.seq ?_
 refine Sr ?_
 refine Pm (.int .i64 x24) hs23_9 rfl ?_
 refine Pm (.int .i64 x25) hs23_10 rfl ?_
 refine Pu (.bool (decide (x24 < x25))) (PO.lss rfl rfl) rfl ?_
 refine Nt ?_
 refine WC.cond (b := decide (x24 < x25)) rfl (fun hb27 => ?_) (fun hb27 => ?_)
 have h := ite_t hb27 h
 refine WC.skip ?_
 refine WQ.thenC ?_
 refine WC.block ?_
 refine Sr ?_
 refine Pm (.int .i64 x24) hs23_9 rfl ?_
 refine Pm (.int .i64 x25) hs23_10 rfl ?_
 refine Pu (.int .i64 (IntKind.i64.wrap (x24 + x25))) (PO.add rfl rfl) rfl ?_
 refine Pu (.int .u64 (IntKind.u64.wrap (IntKind.i64.wrap (x24 + x25)))) (PO.conv us3 Tryd.underlying116 rfl) rfl ?_
 refine Pu (.int .u64 (shrI .u64 (IntKind.u64.wrap (IntKind.i64.wrap (x24 + x25))) (1 : Int))) (PO.shr rfl rfl (by decide)) rfl ?_
 refine Pu (.int .i64 (IntKind.i64.wrap (shrI .u64 (IntKind.u64.wrap (IntKind.i64.wrap (x24 + x25))) (1 : Int)))) (PO.conv us116 Tryd.underlying3 rfl) rfl ?_
 refine Pa (.int .i64 (IntKind.i64.wrap (shrI .u64 (IntKind.u64.wrap (IntKind.i64.wrap (x24 + x25))) (1 : Int)))) rfl rfl ?_
 refine Ns ?_
 refine Pm (.func (.func 47) #[] #[]) hs23_2 rfl ?_
 refine Pm v0 hs23_0 rfl ?_
 refine Pm (.int .i64 (IntKind.i64.wrap (shrI .u64 (IntKind.u64.wrap (IntKind.i64.wrap (x24 + x25))) (1 : Int)))) rfl rfl ?_
 obtain ⟨hg28, h⟩ := grd_i h
 obtain ⟨p29, cs30, hat31, hrc32, hhas33⟩ := h0.at hg28.1 hg28.2 (by decide)
 obtain rfl := kd_api_Span_open hrc32
 refine Pu (.pointer (some p29)) (PO.indexAddr (n := a0.length) Tryd.underlying45 sz73 rfl rfl hg28.1 hg28.2 hat31) rfl ?_
 refine Pu (.agg #[(.int .i64 ((rd a0 (IntKind.i64.wrap (shrI .u64 (IntKind.u64.wrap (IntKind.i64.wrap (x24 + x25))) (1 : Int)))).Term)), (.int .i64 ((rd a0 (IntKind.i64.wrap (shrI .u64 (IntKind.u64.wrap (IntKind.i64.wrap (x24 + x25))) (1 : Int)))).Start))]) (PO.loadMA (cs := [(.int .i64 ((rd a0 (IntKind.i64.wrap (shrI .u64 (IntKind.u64.wrap (IntKind.i64.wrap (x24 + x25))) (1 : Int)))).Term)), (.int .i64 ((rd a0 (IntKind.i64.wrap (shrI .u64 (IntKind.u64.wrap (IntKind.i64.wrap (x24 + x25))) (1 : Int)))).Start))]) ag73 sz73 rfl hhas33) rfl ?_
 refine Pm (.int .i64 a1) hs23_1 rfl ?_
 obtain ⟨r35, hr36, h⟩ := bnd h
 refine WL.eff (EO.callV0 (first := #[]) (cap := #[]) co47 rfl (f_spans_EndOf_1_ok (rd a0 (IntKind.i64.wrap (shrI .u64 (IntKind.u64.wrap (IntKind.i64.wrap (x24 + x25))) (1 : Int)))) a1 _ r35 hr36) (argsV2 rfl rfl rfl)) rfl ?_
 rintro _ M37 _ hle38 ⟨_, ⟨rfl, rfl⟩, rfl⟩
 have h0 := h0.mono hle38
 refine WL.a0 ?_
 refine Pu (.bool (decide (r35 < (0 : Int)))) (PO.lss rfl rfl) rfl ?_
 refine Nt ?_
 refine WC.cond (b := decide (r35 < (0 : Int))) rfl (fun hb40 => ?_) (fun hb40 => ?_)
 have h := ite_t hb40 h
 refine WC.region ?_
 refine Pm (.int .i64 (IntKind.i64.wrap (shrI .u64 (IntKind.u64.wrap (IntKind.i64.wrap (x24 + x25))) (1 : Int)))) rfl rfl ?_
 refine Pu (.int .i64 (IntKind.i64.wrap ((IntKind.i64.wrap (shrI .u64 (IntKind.u64.wrap (IntKind.i64.wrap (x24 + x25))) (1 : Int))) + (1 : Int)))) (PO.add rfl rfl) rfl ?_
 refine Pa (.int .i64 (IntKind.i64.wrap ((IntKind.i64.wrap (shrI .u64 (IntKind.u64.wrap (IntKind.i64.wrap (x24 + x25))) (1 : Int))) + (1 : Int)))) rfl rfl ?_
 refine WL.nil ?_
 refine WQ.blockN ?_
 refine WQ.again (IntKind.i64.wrap ((IntKind.i64.wrap (shrI .u64 (IntKind.u64.wrap (IntKind.i64.wrap (x24 + x25))) (1 : Int))) + (1 : Int)), x25) (Option.some.inj h).symm ?_
 exact ⟨(hle23.trans hle38), rfl, hs23_0, hs23_1, hs23_2, hs23_8, rfl, hs23_10⟩
 have h := ite_f hb40 h
 refine WC.region ?_
 refine Pm (.int .i64 (IntKind.i64.wrap (shrI .u64 (IntKind.u64.wrap (IntKind.i64.wrap (x24 + x25))) (1 : Int)))) rfl rfl ?_
 refine Pa (.int .i64 (IntKind.i64.wrap (shrI .u64 (IntKind.u64.wrap (IntKind.i64.wrap (x24 + x25))) (1 : Int)))) rfl rfl ?_
 refine WL.nil ?_
 refine WQ.blockN ?_
 refine WQ.again (x24, IntKind.i64.wrap (shrI .u64 (IntKind.u64.wrap (IntKind.i64.wrap (x24 + x25))) (1 : Int))) (Option.some.inj h).symm ?_
 exact ⟨(hle23.trans hle38), rfl, hs23_0, hs23_1, hs23_2, hs23_8, hs23_9, rfl⟩
 have h := ite_f hb27 h
 refine WC.exit ?_
 refine WQ.thenE ?_
 refine WQ.leaveE x24 (Option.some.inj h).symm (fun heq23 => ?_)
 subst heq23
 have h := hK23
 refine WQ.blockH ?_
 obtain rfl := Option.some.inj h
 refine WQ.thenJ ?_
 exact ⟨hle23, rfl, hs23_0, hs23_1, hs23_2, hs23_8, hs23_9⟩
 rintro ρ22 M22 H22 ⟨hle22, rfl, hs22_0, hs22_1, hs22_2, hs22_8, hs22_9⟩
 have h0 := h0.mono hle22
 obtain ⟨j43, hj43, h⟩ := bnd h
 refine WC.joinF (fun (p_ : (Int × Bool)) ρ' M' H' => match p_ with | (x41, x42) => M22.le M' ∧ F = H' ∧ ρ' 6 = (.int .i64 x41) ∧ ρ' 7 = (.bool x42)) j43 ?_ ?_
 have h343 := h
 have h := hj43
 refine WC.region ?_
 refine Pm (.int .i64 x21) hs22_9 rfl ?_
 refine Pm (.int .i64 x21) hs22_9 rfl ?_
 refine Pm (.int .i64 (a0.length : Int)) hs22_8 rfl ?_
 refine Pu (.bool (decide (x21 < (a0.length : Int)))) (PO.lss rfl rfl) rfl ?_
 refine Pm (.bool (decide (x21 < (a0.length : Int)))) rfl rfl ?_
 rcases Bool.eq_false_or_eq_true (decide (x21 < (a0.length : Int))) with hb44 | hb44
 have h := ite_t hb44 h
 refine On 39 rfl rfl hb44 ?_
 refine Pm (.func (.func 47) #[] #[]) hs22_2 rfl ?_
 refine On 39 rfl rfl hb44 ?_
 refine Pm v0 hs22_0 rfl ?_
 refine On 39 rfl rfl hb44 ?_
 refine Pm (.int .i64 x21) hs22_9 rfl ?_
 refine On 39 rfl rfl hb44 ?_
 obtain ⟨hg45, h⟩ := grd_i h
 obtain ⟨p46, cs47, hat48, hrc49, hhas50⟩ := h0.at hg45.1 hg45.2 (by decide)
 obtain rfl := kd_api_Span_open hrc49
 refine Pu (.pointer (some p46)) (PO.indexAddr (n := a0.length) Tryd.underlying45 sz73 rfl rfl hg45.1 hg45.2 hat48) rfl ?_
 refine On 39 rfl rfl hb44 ?_
 refine Pu (.agg #[(.int .i64 ((rd a0 x21).Term)), (.int .i64 ((rd a0 x21).Start))]) (PO.loadMA (cs := [(.int .i64 ((rd a0 x21).Term)), (.int .i64 ((rd a0 x21).Start))]) ag73 sz73 rfl hhas50) rfl ?_
 refine On 39 rfl rfl hb44 ?_
 refine Pm (.int .i64 a1) hs22_1 rfl ?_
 refine On 39 rfl rfl hb44 ?_
 obtain ⟨r52, hr53, h⟩ := bnd h
 refine WL.eff (EO.callV0 (first := #[]) (cap := #[]) co47 rfl (f_spans_EndOf_1_ok (rd a0 x21) a1 _ r52 hr53) (argsV2 rfl rfl rfl)) rfl ?_
 rintro _ M54 _ hle55 ⟨_, ⟨rfl, rfl⟩, rfl⟩
 have h0 := h0.mono hle55
 refine WL.a0 ?_
 refine On 39 rfl rfl hb44 ?_
 refine Pu (.bool (decide (r52 = (0 : Int)))) (PO.eql rfl rfl) rfl ?_
 refine Pu (.bool (decide (r52 = (0 : Int)))) (PO.pickT rfl hb44 rfl) rfl ?_
 refine Pa (.int .i64 x21) rfl rfl ?_
 refine Pa (.bool (decide (r52 = (0 : Int)))) rfl rfl ?_
 refine WL.nil ?_
 obtain rfl := Option.some.inj h
 refine WQ.thenJ ?_
 exact ⟨hle55, rfl, rfl, rfl⟩
 have h := ite_f hb44 h
 iterate 8 refine Of 39 rfl rfl hb44 rfl ?_
 refine Pu (.bool false) (PO.pickF rfl hb44 rfl) rfl ?_
 refine Pa (.int .i64 x21) rfl rfl ?_
 refine Pa (.bool false) rfl rfl ?_
 refine WL.nil ?_
 obtain rfl := Option.some.inj h
 refine WQ.thenJ ?_
 exact ⟨(IM.le.refl _), rfl, rfl, rfl⟩
 obtain ⟨x41, x42⟩ := j43
 rintro ρ43 M43 H43 ⟨hle43, rfl, hs43_6, hs43_7⟩
 refine WC.ret ?_
 exact WQ.returnsF h [] rfl (results2 rfl hs43_6 hs43_7) (hle22.trans hle43) ⟨rfl, rfl⟩

noncomputable def f_spans_EndOf (a0 : (List T_api_Span)) (a1 : Int) (a2 : Int) : Option (Int × Int × Bool) :=
  ((f_slices_BinarySearchFunc_api_Span_api_Span_int_47 a0 a1).bind fun (r21, r22) => (if (decide (r21 = (0 : Int))) = true then (some ((0 : Int), (0 : Int), false)) else (if (decide (r21 = (a0.length : Int))) = true then (grd (0 ≤ IntKind.i64.wrap (r21 - (1 : Int)) ∧ IntKind.i64.wrap (r21 - (1 : Int)) < a0.length) (some ((rd a0 (IntKind.i64.wrap (r21 - (1 : Int)))).Term, a2, true))) else (grd (0 ≤ IntKind.i64.wrap (r21 - (1 : Int)) ∧ IntKind.i64.wrap (r21 - (1 : Int)) < a0.length) (grd (0 ≤ r21 ∧ r21 < a0.length) (some ((rd a0 (IntKind.i64.wrap (r21 - (1 : Int)))).Term, (rd a0 r21).Start, true)))))))
def f_spans_EndOf_post (a0 : (List T_api_Span)) (a1 : Int) (a2 : Int) (v0 : Value) : (Int × Int × Bool) → Value → IM → HL → Prop :=
  fun (p_ : (Int × Int × Bool)) (v : Value) (M' : IM) (H' : HL) => match p_ with | (r0, r1, r2) => (.tuple #[(.int .i64 r0), (.int .i64 r1), (.bool r2)]) = v ∧ H' = []
set_option maxHeartbeats 1000000 in
set_option maxRecDepth 100000 in
theorem f_spans_EndOf_ok (a0 : (List T_api_Span)) (a1 : Int) (a2 : Int) (M : IM) (v0 : Value) (h0 : RS kd_api_Span M v0 a0) (res : (Int × Int × Bool)) (h : f_spans_EndOf a0 a1 a2 = some res) :
    Tri Tryd.prog 37 #[v0, (.int .i64 a1), (.int .i64 a2)] M [] (f_spans_EndOf_post a0 a1 a2 v0 res) := by
 unfold f_spans_EndOf at h
 refine Tri.enter (fn := Tryd.f37) Tryd.func37 rfl (Nat.le_of_ble_eq_true rfl) ?_
 intro F ρ hρ
 refine Sr ?_
 refine Pa (.int .i64 (0 : Int)) rfl rfl ?_
 refine Pa (.int .i64 (0 : Int)) rfl rfl ?_
 refine Pa (.bool false) rfl rfl ?_
 refine Ns ?_
 refine Pm v0 (hρ 0) rfl ?_
 refine Pm (.int .i64 a1) (hρ 1) rfl ?_
 obtain ⟨⟨r21, r22⟩, hr23, h⟩ := bnd h
 refine WL.eff (EO.call0 co46 (f_slices_BinarySearchFunc_api_Span_api_Span_int_47_ok a0 a1 _ _ h0 (r21, r22) hr23) (args3 rfl rfl rfl)) rfl ?_
 rintro _ M24 _ hle25 ⟨_, ⟨rfl, rfl⟩, rfl⟩
 have h0 := h0.mono hle25
 refine WL.a0 ?_
 refine Pm (.tuple #[(.int .i64 r21), (.bool r22)]) rfl rfl ?_
 refine Pu (.int .i64 r21) (PO.extract rfl rfl) rfl ?_
 refine Pu (.bool r22) (PO.extract rfl rfl) rfl ?_
 refine Pa (.int .i64 r21) rfl rfl ?_
 refine Pa (.bool r22) rfl rfl ?_
 refine Nt ?_
 refine WC.seq ?_
 refine WC.block ?_
 refine Sr ?_
 refine Pm (.int .i64 r21) rfl rfl ?_
 refine Pu (.bool (decide (r21 = (0 : Int)))) (PO.eql rfl rfl) rfl ?_
 refine Pa (.bool (decide (r21 = (0 : Int)))) rfl rfl ?_
 refine Nt ?_
 refine WC.cond (b := decide (r21 = (0 : Int))) rfl (fun hb28 => ?_) (fun hb28 => ?_)
 have h := ite_t hb28 h
 refine Sr ?_
 refine Pa (.int .i64 (0 : Int)) rfl rfl ?_
 refine Pa (.int .i64 (0 : Int)) rfl rfl ?_
 refine Pa (.bool false) rfl rfl ?_
 refine Nt ?_
 refine WC.ret ?_
 refine WQ.blockR ?_
 refine WQ.thenR ?_
 exact WQ.returnsF h [] rfl (results3 rfl rfl rfl rfl) hle25 ⟨rfl, rfl⟩
 have h := ite_f hb28 h
 refine Sr ?_
 refine Pm (.int .i64 r21) rfl rfl ?_
 refine Pm v0 (hρ 0) rfl ?_
 refine Pu (.int .i64 (a0.length : Int)) (PO.lenS Tryd.underlying45 rfl h0.len) rfl ?_
 refine Pu (.bool (decide (r21 = (a0.length : Int)))) (PO.eql rfl rfl) rfl ?_
 refine Pa (.bool (decide (r21 = (a0.length : Int)))) rfl rfl ?_
 refine Nt ?_
 refine WC.cond (b := decide (r21 = (a0.length : Int))) rfl (fun hb29 => ?_) (fun hb29 => ?_)
 have h := ite_t hb29 h
 refine Sr ?_
 refine Pm v0 (hρ 0) rfl ?_
 refine Pm (.int .i64 r21) rfl rfl ?_
 refine Pu (.int .i64 (IntKind.i64.wrap (r21 - (1 : Int)))) (PO.sub rfl rfl) rfl ?_
 obtain ⟨hg30, h⟩ := grd_i h
 obtain ⟨p31, cs32, hat33, hrc34, hhas35⟩ := h0.at hg30.1 hg30.2 (by decide)
 obtain rfl := kd_api_Span_open hrc34
 refine Pu (.pointer (some p31)) (PO.indexAddr (n := a0.length) Tryd.underlying45 sz73 rfl rfl hg30.1 hg30.2 hat33) rfl ?_
 refine Pu (.pointer (some (p31.add 0))) (PO.fieldAddr fo73_0 rfl rfl) rfl ?_
 refine Pu (.int .i64 ((rd a0 (IntKind.i64.wrap (r21 - (1 : Int)))).Term)) (PO.loadM pl3 rfl (IM.has0 hhas35)) rfl ?_
 refine Pm (.int .i64 a2) (hρ 2) rfl ?_
 refine Pa (.int .i64 ((rd a0 (IntKind.i64.wrap (r21 - (1 : Int)))).Term)) rfl rfl ?_
 refine Pa (.int .i64 a2) rfl rfl ?_
 refine Pa (.bool true) rfl rfl ?_
 refine Nt ?_
 refine WC.ret ?_
 refine WQ.blockR ?_
 refine WQ.thenR ?_
 exact WQ.returnsF h [] rfl (results3 rfl rfl rfl rfl) hle25 ⟨rfl, rfl⟩
 have h := ite_f hb29 h
 refine WC.skip ?_
 refine WQ.blockN ?_
 refine WQ.thenC ?_
 refine WC.seq ?_
 refine WC.draw [0, 0, 2, 7, 15, 31, 0, 0, 192, 448, 960, 63, 4095, 8191] (.pure 0 (.pure 1 (.pure 2 (.pure 3 (.pure 4 (.pure 5 (.pure 6 (.pure 7 (.pure 8 (.pure 9 (.pure 10 (.pure 11 (.pure 12 (.pure 13 .done)))))))))))))) mixed (by kernel_rfl) ?_
 refine Tp v0 rfl (PO.move (hρ 0)) rfl ?_
 refine Tp (.int .i64 r21) rfl (PO.move rfl) rfl ?_
 refine Tp (.int .i64 (IntKind.i64.wrap (r21 - (1 : Int)))) rfl (PO.sub rfl rfl) rfl ?_
 obtain ⟨hg37, h⟩ := grd_i h
 obtain ⟨p38, cs39, hat40, hrc41, hhas42⟩ := h0.at hg37.1 hg37.2 (by decide)
 obtain rfl := kd_api_Span_open hrc41
 refine Tp (.pointer (some p38)) rfl (PO.indexAddr (n := a0.length) Tryd.underlying45 sz73 rfl rfl hg37.1 hg37.2 hat40) rfl ?_
 refine Tp (.pointer (some (p38.add 0))) rfl (PO.fieldAddr fo73_0 rfl rfl) rfl ?_
 refine Tp (.int .i64 ((rd a0 (IntKind.i64.wrap (r21 - (1 : Int)))).Term)) rfl (PO.loadM pl3 rfl (IM.has0 hhas42)) rfl ?_
 refine Tp v0 rfl (PO.move (hρ 0)) rfl ?_
 refine Tp (.int .i64 r21) rfl (PO.move rfl) rfl ?_
 obtain ⟨hg44, h⟩ := grd_i h
 obtain ⟨p45, cs46, hat47, hrc48, hhas49⟩ := h0.at hg44.1 hg44.2 (by decide)
 obtain rfl := kd_api_Span_open hrc48
 refine Tp (.pointer (some p45)) rfl (PO.indexAddr (n := a0.length) Tryd.underlying45 sz73 rfl rfl hg44.1 hg44.2 hat47) rfl ?_
 refine Tp (.pointer (some (p45.add 1))) rfl (PO.fieldAddr fo73_1 rfl rfl) rfl ?_
 refine Tp (.int .i64 ((rd a0 r21).Start)) rfl (PO.loadM pl3 rfl (hhas49 1 _ rfl)) rfl ?_
 refine Tp (.int .i64 ((rd a0 (IntKind.i64.wrap (r21 - (1 : Int)))).Term)) rfl (PO.assign rfl) rfl ?_
 refine Tp (.int .i64 ((rd a0 r21).Start)) rfl (PO.assign rfl) rfl ?_
 refine Tp (.bool true) rfl (PO.assign rfl) rfl ?_
 refine WT.fin ?_
 refine WQ.thenC ?_
 refine WC.ret ?_
 exact WQ.returnsF h [] rfl (results3 rfl rfl rfl rfl) hle25 ⟨rfl, rfl⟩

noncomputable def f_spans_l0 (a0 : (List T_api_Span)) : Option (Int × Int × Bool) :=
  (if (decide ((a0.length : Int) = (0 : Int))) = true then (some ((0 : Int), (0 : Int), true)) else (grd (0 ≤ (0 : Int) ∧ (0 : Int) < a0.length) (some ((0 : Int), (rd a0 (0 : Int)).Start, true))))
def f_spans_l0_post (a0 : (List T_api_Span)) (v0 : Value) : (Int × Int × Bool) → Value → IM → HL → Prop :=
  fun (p_ : (Int × Int × Bool)) (v : Value) (M' : IM) (H' : HL) => match p_ with | (r0, r1, r2) => (.tuple #[(.int .i64 r0), (.int .i64 r1), (.bool r2)]) = v ∧ H' = []
set_option maxHeartbeats 1000000 in
set_option maxRecDepth 100000 in
theorem f_spans_l0_ok (a0 : (List T_api_Span)) (M : IM) (v0 : Value) (h0 : RS kd_api_Span M v0 a0) (res : (Int × Int × Bool)) (h : f_spans_l0 a0 = some res) :
    Tri Tryd.prog 48 #[v0] M [] (f_spans_l0_post a0 v0 res) := by
 unfold f_spans_l0 at h
 refine Tri.enter (fn := Tryd.f48) Tryd.func48 rfl (Nat.le_of_ble_eq_true rfl) ?_
 intro F ρ hρ
 refine Sr ?_
 refine Pa (.int .i64 (0 : Int)) rfl rfl ?_
 refine Pa (.int .i64 (0 : Int)) rfl rfl ?_
 refine Pa (.bool false) rfl rfl ?_
 refine Nt ?_
 refine WC.seq ?_
 refine Sr ?_
 refine Pm v0 (hρ 0) rfl ?_
 refine Pu (.int .i64 (a0.length : Int)) (PO.lenS Tryd.underlying45 rfl h0.len) rfl ?_
 refine Pu (.bool (decide ((a0.length : Int) = (0 : Int)))) (PO.eql rfl rfl) rfl ?_
 refine Nt ?_
 refine WC.cond (b := decide ((a0.length : Int) = (0 : Int))) rfl (fun hb21 => ?_) (fun hb21 => ?_)
 have h := ite_t hb21 h
 refine Sr ?_
 refine Pa (.int .i64 (0 : Int)) rfl rfl ?_
 refine Pa (.int .i64 (0 : Int)) rfl rfl ?_
 refine Pa (.bool true) rfl rfl ?_
 refine Nt ?_
 refine WC.ret ?_
 refine WQ.thenR ?_
 exact WQ.returnsF h [] rfl (results3 rfl rfl rfl rfl) (IM.le.refl _) ⟨rfl, rfl⟩
 have h := ite_f hb21 h
 refine WC.skip ?_
 refine WQ.thenC ?_
 refine WC.seq ?_
 refine WC.draw [0, 1, 3, 7, 0, 31, 63] (.pure 0 (.pure 1 (.pure 2 (.pure 3 (.pure 4 (.pure 5 (.pure 6 .done))))))) mixed (by kernel_rfl) ?_
 refine Tp v0 rfl (PO.move (hρ 0)) rfl ?_
 obtain ⟨hg22, h⟩ := grd_i h
 obtain ⟨p23, cs24, hat25, hrc26, hhas27⟩ := h0.at hg22.1 hg22.2 (by decide)
 obtain rfl := kd_api_Span_open hrc26
 refine Tp (.pointer (some p23)) rfl (PO.indexAddr (n := a0.length) Tryd.underlying45 sz73 rfl rfl hg22.1 hg22.2 hat25) rfl ?_
 refine Tp (.pointer (some (p23.add 1))) rfl (PO.fieldAddr fo73_1 rfl rfl) rfl ?_
 refine Tp (.int .i64 ((rd a0 (0 : Int)).Start)) rfl (PO.loadM pl3 rfl (hhas27 1 _ rfl)) rfl ?_
 refine Tp (.int .i64 (0 : Int)) rfl (PO.assign rfl) rfl ?_
 refine Tp (.int .i64 ((rd a0 (0 : Int)).Start)) rfl (PO.assign rfl) rfl ?_
 refine Tp (.bool true) rfl (PO.assign rfl) rfl ?_
 refine WT.fin ?_
 refine WQ.thenC ?_
 refine WC.ret ?_
 exact WQ.returnsF h [] rfl (results3 rfl rfl rfl rfl) (IM.le.refl _) ⟨rfl, rfl⟩

noncomputable def f_spans_Parted (a0 : (List T_api_Span)) (a1 : Int) (a2 : Int) (a3 : Int) : Option (Int × Int × Bool) :=
  ((f_spans_EndOf a0 a2 a1).bind fun (r21, r22, r23) => (if (!r23) = true then ((f_spans_l0 a0).bind fun (r31, r32, r33) => (some (r31, r32, r33))) else (((if (decide (r21 ≠ a2)) = true then (some true) else (some (decide (r22 < a3)))) : Option Bool).bind fun (x40 : Bool) => (if x40 = true then (some (r21, r22, true)) else (some ((0 : Int), (0 : Int), false))))))
def f_spans_Parted_post (a0 : (List T_api_Span)) (a1 : Int) (a2 : Int) (a3 : Int) (v0 : Value) : (Int × Int × Bool) → Value → IM → HL → Prop :=
  fun (p_ : (Int × Int × Bool)) (v : Value) (M' : IM) (H' : HL) => match p_ with | (r0, r1, r2) => (.tuple #[(.int .i64 r0), (.int .i64 r1), (.bool r2)]) = v ∧ H' = []
set_option maxHeartbeats 1000000 in
set_option maxRecDepth 100000 in
theorem f_spans_Parted_ok (a0 : (List T_api_Span)) (a1 : Int) (a2 : Int) (a3 : Int) (M : IM) (v0 : Value) (h0 : RS kd_api_Span M v0 a0) (res : (Int × Int × Bool)) (h : f_spans_Parted a0 a1 a2 a3 = some res) :
    Tri Tryd.prog 38 #[v0, (.int .i64 a1), (.int .i64 a2), (.int .i64 a3)] M [] (f_spans_Parted_post a0 a1 a2 a3 v0 res) := by
 unfold f_spans_Parted at h
 refine Tri.enter (fn := Tryd.f38) Tryd.func38 rfl (Nat.le_of_ble_eq_true rfl) ?_
 intro F ρ hρ
 refine Sr ?_
 refine Pa (.int .i64 (0 : Int)) rfl rfl ?_
 refine Pa (.int .i64 (0 : Int)) rfl rfl ?_
 refine Pa (.bool false) rfl rfl ?_
 refine Ns ?_
 refine Pm v0 (hρ 0) rfl ?_
 refine Pm (.int .i64 a2) (hρ 2) rfl ?_
 refine Pm (.int .i64 a1) (hρ 1) rfl ?_
 obtain ⟨⟨r21, r22, r23⟩, hr24, h⟩ := bnd h
 refine WL.eff (EO.call0 co37 (f_spans_EndOf_ok a0 a2 a1 _ _ h0 (r21, r22, r23) hr24) (args3 rfl rfl rfl)) rfl ?_
 rintro _ M25 _ hle26 ⟨_, ⟨rfl, rfl⟩, rfl⟩
 have h0 := h0.mono hle26
 refine WL.a0 ?_
 refine Pm (.tuple #[(.int .i64 r21), (.int .i64 r22), (.bool r23)]) rfl rfl ?_
 refine Pu (.int .i64 r21) (PO.extract rfl rfl) rfl ?_
 refine Pu (.int .i64 r22) (PO.extract rfl rfl) rfl ?_
 refine Pu (.bool r23) (PO.extract rfl rfl) rfl ?_
 refine Pa (.int .i64 r21) rfl rfl ?_
 refine Pa (.int .i64 r22) rfl rfl ?_
 refine Pa (.bool r23) rfl rfl ?_
 refine Nt ?_
 refine WC.seq ?_
 refine WC.block ?_
 refine Sr ?_
 refine Pm (.bool r23) rfl rfl ?_
 refine Pu (.bool (!r23)) (PO.not rfl) rfl ?_
 refine Pa (.bool (!r23)) rfl rfl ?_
 refine Nt ?_
 refine WC.cond (b := !r23) rfl (fun hb30 => ?_) (fun hb30 => ?_)
 have h := ite_t hb30 h
 refine Sr ?_
 refine Pm v0 (hρ 0) rfl ?_
 obtain ⟨⟨r31, r32, r33⟩, hr34, h⟩ := bnd h
 refine WL.eff (EO.call0 co48 (f_spans_l0_ok a0 _ _ h0 (r31, r32, r33) hr34) (args1 rfl)) rfl ?_
 rintro _ M35 _ hle36 ⟨_, ⟨rfl, rfl⟩, rfl⟩
 have h0 := h0.mono hle36
 refine WL.a0 ?_
 refine Pu (.int .i64 r31) (PO.extract rfl rfl) rfl ?_
 refine Pu (.int .i64 r32) (PO.extract rfl rfl) rfl ?_
 refine Pu (.bool r33) (PO.extract rfl rfl) rfl ?_
 refine Pa (.int .i64 r31) rfl rfl ?_
 refine Pa (.int .i64 r32) rfl rfl ?_
 refine Pa (.bool r33) rfl rfl ?_
 refine Nt ?_
 refine WC.ret ?_
 refine WQ.blockR ?_
 refine WQ.thenR ?_
 exact WQ.returnsF h [] rfl (results3 rfl rfl rfl rfl) (hle26.trans hle36) ⟨rfl, rfl⟩
 have h := ite_f hb30 h
 obtain ⟨x40, hj41, h⟩ := bnd h
 refine WC.joinF (fun (x40 : Bool) ρ' M' H' => M25.le M' ∧ F = H' ∧ ρ' 11 = (.int .i64 r21) ∧ ρ' 12 = (.int .i64 r22) ∧ ρ' 30 = (.bool x40)) x40 ?_ ?_
 have h341 := h
 have h := hj41
 refine WC.region ?_
 refine Pm (.int .i64 r21) rfl rfl ?_
 refine Pm (.int .i64 a2) (hρ 2) rfl ?_
 refine Pu (.bool (decide (r21 ≠ a2))) (PO.neq rfl rfl) rfl ?_
 refine Pm (.bool (decide (r21 ≠ a2))) rfl rfl ?_
 rcases Bool.eq_false_or_eq_true (decide (r21 ≠ a2)) with hb42 | hb42
 have h := ite_t hb42 h
 iterate 3 refine Of 34 rfl rfl hb42 rfl ?_
 refine Pu (.bool true) (PO.pickT rfl hb42 rfl) rfl ?_
 refine Pa (.bool true) rfl rfl ?_
 refine WL.nil ?_
 obtain rfl := Option.some.inj h
 refine WQ.thenJ ?_
 exact ⟨(IM.le.refl _), rfl, rfl, rfl, rfl⟩
 have h := ite_f hb42 h
 refine On 34 rfl rfl hb42 ?_
 refine Pm (.int .i64 r22) rfl rfl ?_
 refine On 34 rfl rfl hb42 ?_
 refine Pm (.int .i64 a3) (hρ 3) rfl ?_
 refine On 34 rfl rfl hb42 ?_
 refine Pu (.bool (decide (r22 < a3))) (PO.lss rfl rfl) rfl ?_
 refine Pu (.bool (decide (r22 < a3))) (PO.pickF rfl hb42 rfl) rfl ?_
 refine Pa (.bool (decide (r22 < a3))) rfl rfl ?_
 refine WL.nil ?_
 obtain rfl := Option.some.inj h
 refine WQ.thenJ ?_
 exact ⟨(IM.le.refl _), rfl, rfl, rfl, rfl⟩
 rintro ρ41 M41 H41 ⟨hle41, rfl, hs41_11, hs41_12, hs41_30⟩
 refine WC.cond (b := x40) hs41_30 (fun hb43 => ?_) (fun hb43 => ?_)
 have h := ite_t hb43 h
 refine Sr ?_
 refine Pm (.int .i64 r21) hs41_11 rfl ?_
 refine Pm (.int .i64 r22) hs41_12 rfl ?_
 refine Pa (.int .i64 r21) rfl rfl ?_
 refine Pa (.int .i64 r22) rfl rfl ?_
 refine Pa (.bool true) rfl rfl ?_
 refine Nt ?_
 refine WC.ret ?_
 refine WQ.blockR ?_
 refine WQ.thenR ?_
 exact WQ.returnsF h [] rfl (results3 rfl rfl rfl rfl) (hle26.trans hle41) ⟨rfl, rfl⟩
 have h := ite_f hb43 h
 refine WC.skip ?_
 refine WQ.blockN ?_
 refine WQ.thenC ?_
 refine Sr ?_
 refine Pa (.int .i64 (0 : Int)) rfl rfl ?_
 refine Pa (.int .i64 (0 : Int)) rfl rfl ?_
 refine Pa (.bool false) rfl rfl ?_
 refine Nt ?_
 refine WC.ret ?_
 exact WQ.returnsF h [] rfl (results3 rfl rfl rfl rfl) (hle26.trans hle41) ⟨rfl, rfl⟩

noncomputable def f_spans_Keep (a0 : (List T_api_Span)) (a1 : Int) (a2 : Int) (a3 : Int) : Option Int :=
  ((f_spans_EndOf a0 a2 a1).bind fun (r21, r22, r23) => (if (!r23) = true then ((f_spans_l0 a0).bind fun (r31, r32, r33) => (some r32)) else (if (decide (r21 = a2)) = true then (some (if a3 < r22 then a3 else r22)) else (some r22))))
def f_spans_Keep_post (a0 : (List T_api_Span)) (a1 : Int) (a2 : Int) (a3 : Int) (v0 : Value) : Int → Value → IM → HL → Prop :=
  fun (r0 : Int) (v : Value) (M' : IM) (H' : HL) => (.int .i64 r0) = v ∧ H' = []
set_option maxHeartbeats 1000000 in
set_option maxRecDepth 100000 in
theorem f_spans_Keep_ok (a0 : (List T_api_Span)) (a1 : Int) (a2 : Int) (a3 : Int) (M : IM) (v0 : Value) (h0 : RS kd_api_Span M v0 a0) (res : Int) (h : f_spans_Keep a0 a1 a2 a3 = some res) :
    Tri Tryd.prog 39 #[v0, (.int .i64 a1), (.int .i64 a2), (.int .i64 a3)] M [] (f_spans_Keep_post a0 a1 a2 a3 v0 res) := by
 unfold f_spans_Keep at h
 refine Tri.enter (fn := Tryd.f39) Tryd.func39 rfl (Nat.le_of_ble_eq_true rfl) ?_
 intro F ρ hρ
 refine Sr ?_
 refine Pa (.int .i64 (0 : Int)) rfl rfl ?_
 refine Ns ?_
 refine Pm v0 (hρ 0) rfl ?_
 refine Pm (.int .i64 a2) (hρ 2) rfl ?_
 refine Pm (.int .i64 a1) (hρ 1) rfl ?_
 obtain ⟨⟨r21, r22, r23⟩, hr24, h⟩ := bnd h
 refine WL.eff (EO.call0 co37 (f_spans_EndOf_ok a0 a2 a1 _ _ h0 (r21, r22, r23) hr24) (args3 rfl rfl rfl)) rfl ?_
 rintro _ M25 _ hle26 ⟨_, ⟨rfl, rfl⟩, rfl⟩
 have h0 := h0.mono hle26
 refine WL.a0 ?_
 refine Pm (.tuple #[(.int .i64 r21), (.int .i64 r22), (.bool r23)]) rfl rfl ?_
 refine Pu (.int .i64 r21) (PO.extract rfl rfl) rfl ?_
 refine Pu (.int .i64 r22) (PO.extract rfl rfl) rfl ?_
 refine Pu (.bool r23) (PO.extract rfl rfl) rfl ?_
 refine Pa (.int .i64 r21) rfl rfl ?_
 refine Pa (.int .i64 r22) rfl rfl ?_
 refine Pa (.bool r23) rfl rfl ?_
 refine Nt ?_
 refine WC.seq ?_
 refine Sr ?_
 refine Pm (.bool r23) rfl rfl ?_
 refine Pu (.bool (!r23)) (PO.not rfl) rfl ?_
 refine Nt ?_
 refine WC.cond (b := !r23) rfl (fun hb30 => ?_) (fun hb30 => ?_)
 have h := ite_t hb30 h
 refine Sr ?_
 refine Pm v0 (hρ 0) rfl ?_
 obtain ⟨⟨r31, r32, r33⟩, hr34, h⟩ := bnd h
 refine WL.eff (EO.call0 co48 (f_spans_l0_ok a0 _ _ h0 (r31, r32, r33) hr34) (args1 rfl)) rfl ?_
 rintro _ M35 _ hle36 ⟨_, ⟨rfl, rfl⟩, rfl⟩
 have h0 := h0.mono hle36
 refine WL.a0 ?_
 refine Pm (.tuple #[(.int .i64 r31), (.int .i64 r32), (.bool r33)]) rfl rfl ?_
 refine Pu (.int .i64 r31) (PO.extract rfl rfl) rfl ?_
 refine Pu (.int .i64 r32) (PO.extract rfl rfl) rfl ?_
 refine Pu (.bool r33) (PO.extract rfl rfl) rfl ?_
 refine Pa (.int .i64 r31) rfl rfl ?_
 refine Pa (.int .i64 r32) rfl rfl ?_
 refine Pa (.bool r33) rfl rfl ?_
 refine Ns ?_
 refine Pm (.int .i64 r32) rfl rfl ?_
 refine Pa (.int .i64 r32) rfl rfl ?_
 refine Nt ?_
 refine WC.ret ?_
 refine WQ.thenR ?_
 exact WQ.returnsF h [] rfl (results1 rfl rfl) (hle26.trans hle36) ⟨rfl, rfl⟩
 have h := ite_f hb30 h
 refine WC.skip ?_
 refine WQ.thenC ?_
 refine WC.seq ?_
 refine Sr ?_
 refine Pm (.int .i64 r21) rfl rfl ?_
 refine Pm (.int .i64 a2) (hρ 2) rfl ?_
 refine Pu (.bool (decide (r21 = a2))) (PO.eql rfl rfl) rfl ?_
 refine Nt ?_
 refine WC.cond (b := decide (r21 = a2)) rfl (fun hb40 => ?_) (fun hb40 => ?_)
 have h := ite_t hb40 h
 refine Sr ?_
 refine Pm (.int .i64 r22) rfl rfl ?_
 refine Pm (.int .i64 a3) (hρ 3) rfl ?_
 refine Pu (.int .i64 (if a3 < r22 then a3 else r22)) (PO.min rfl rfl) rfl ?_
 refine Pa (.int .i64 (if a3 < r22 then a3 else r22)) rfl rfl ?_
 refine Nt ?_
 refine WC.ret ?_
 refine WQ.thenR ?_
 exact WQ.returnsF h [] rfl (results1 rfl rfl) hle26 ⟨rfl, rfl⟩
 have h := ite_f hb40 h
 refine WC.skip ?_
 refine WQ.thenC ?_
 refine Sr ?_
 refine Pm (.int .i64 r22) rfl rfl ?_
 refine Pa (.int .i64 r22) rfl rfl ?_
 refine Nt ?_
 refine WC.ret ?_
 exact WQ.returnsF h [] rfl (results1 rfl rfl) hle26 ⟨rfl, rfl⟩

noncomputable def f_slices_Clone_api_Span_api_Span (a0 : (List T_api_Span)) : Option (List T_api_Span) :=
  (grd (([] : List T_api_Span).length + a0.length ≤ 274877906944) (some (([] : List T_api_Span) ++ a0)))
def f_slices_Clone_api_Span_api_Span_post (a0 : (List T_api_Span)) (v0 : Value) : (List T_api_Span) → Value → IM → HL → Prop :=
  fun (r0 : (List T_api_Span)) (v : Value) (M' : IM) (H' : HL) => ∃ vz0 cz0, vz0 = v ∧ H' = [cz0] ∧ OwnS kd_api_Span M' vz0 r0 cz0
set_option maxHeartbeats 1000000 in
set_option maxRecDepth 100000 in
theorem f_slices_Clone_api_Span_api_Span_ok (a0 : (List T_api_Span)) (M : IM) (v0 : Value) (h0 : RS kd_api_Span M v0 a0) (res : (List T_api_Span)) (h : f_slices_Clone_api_Span_api_Span a0 = some res) :
    Tri Tryd.prog 40 #[v0] M [] (f_slices_Clone_api_Span_api_Span_post a0 v0 res) := by
 unfold f_slices_Clone_api_Span_api_Span at h
 refine Tri.enter (fn := Tryd.f40) Tryd.func40 rfl (Nat.le_of_ble_eq_true rfl) ?_
 intro F ρ hρ
 refine Sr ?_
 refine Pa (.slice none 0 0) rfl rfl ?_
 refine Nt ?_
 refine WC.seq ?_
 refine Sr ?_
 refine Pm v0 (hρ 0) rfl ?_
 refine Pu (.bool (nilS v0)) (PO.sliceNil Tryd.underlying45 rfl h0.len rfl) rfl ?_
 refine Nt ?_
 refine WC.cond (b := nilS v0) rfl (fun hb21 => ?_) (fun hb21 => ?_)
 obtain rfl := h0.nilxs (by decide) hb21
 have h := Eq.trans (a := ((some []) : Option (List T_api_Span))) (by simp [grd]) h
 refine Sr ?_
 refine Pa (.slice none 0 0) rfl rfl ?_
 refine Nt ?_
 refine WC.ret ?_
 refine WQ.thenR ?_
 refine WQ.e0 ?_
 exact WQ.returnsF h [[]] rfl (results1 rfl rfl) (IM.le.refl _) ⟨(.slice none 0 0), [], rfl, rfl, (OwnS.nil _ _)⟩
 refine WC.skip ?_
 refine WQ.thenC ?_
 refine Sr ?_
 refine WL.eff (EO.buildSliceL (cl := []) Tryd.underlying45 iz73 rfl Parts.nil rfl) rfl ?_
 rintro _ _ _ - ⟨rfl, g23, rfl, rfl⟩
 have h25 : OwnS kd_api_Span M (.slice (some ⟨g23, 0, none⟩) 0 0) [] [(g23, .cells #[] 73 (0, 0))] := OwnS.rows (css := []) Rows.nil rfl rfl
 refine Pm v0 (hρ 0) rfl ?_
 obtain ⟨hg29, h⟩ := grd_i h
 refine WL.eff (EO.append (dd := kd_api_Span) (xs := []) (ys := a0) Tryd.underlying45 Tryd.underlying45 in73 rfl (appB (by decide) hg29) (by decide) rfl rfl h25 (h0.src _)) rfl ?_
 rintro v28 _ _ - ⟨rfl, c26, rfl, h27⟩
 refine Pa v28 rfl rfl ?_
 refine Nt ?_
 refine WC.ret ?_
 exact WQ.returnsF h [c26] rfl (results1 rfl rfl) (IM.le.refl _) ⟨v28, c26, rfl, rfl, h27⟩

noncomputable def f_spans_Add_l0 (a2 : Int) (s_ : (List T_api_Span)) : Option ((List T_api_Span) ⊕ (List T_api_Span)) :=
  match s_ with
  | x29 =>
    (((if (decide ((0 : Int) < (x29.length : Int))) = true then (grd (0 ≤ IntKind.i64.wrap ((x29.length : Int) - (1 : Int)) ∧ IntKind.i64.wrap ((x29.length : Int) - (1 : Int)) < x29.length) (some (decide (a2 ≤ ((rd x29 (IntKind.i64.wrap ((x29.length : Int) - (1 : Int)))).Start))))) else (some false)) : Option Bool).bind fun (x31 : Bool) => (if x31 = true then (grd (0 ≤ (0 : Int) ∧ (0 : Int) ≤ IntKind.i64.wrap ((x29.length : Int) - (1 : Int)) ∧ IntKind.i64.wrap ((x29.length : Int) - (1 : Int)) ≤ (x29.length : Int)) (some (Sum.inl (sub x29 (0 : Int) (IntKind.i64.wrap ((x29.length : Int) - (1 : Int))))))) else (some (Sum.inr x29))))
noncomputable def f_spans_Add (a0 : (List T_api_Span)) (a1 : Int) (a2 : Int) : Option (List T_api_Span) :=
  ((f_slices_Clone_api_Span_api_Span a0).bind fun (r21 : (List T_api_Span)) => ((((iter (f_spans_Add_l0 a2) r21).bind (fun (x30 : (List T_api_Span)) => (some x30))) : Option (List T_api_Span)).bind fun (x26 : (List T_api_Span)) => (((if (decide ((0 : Int) < (x26.length : Int))) = true then (grd (0 ≤ IntKind.i64.wrap ((x26.length : Int) - (1 : Int)) ∧ IntKind.i64.wrap ((x26.length : Int) - (1 : Int)) < x26.length) (some (decide (a1 ≤ ((rd x26 (IntKind.i64.wrap ((x26.length : Int) - (1 : Int)))).Term))))) else (some false)) : Option Bool).bind fun (x44 : Bool) => (if x44 = true then (some x26) else (grd (x26.length + [(⟨a1, a2⟩ : T_api_Span)].length ≤ 274877906944) (some (x26 ++ [(⟨a1, a2⟩ : T_api_Span)])))))))
def f_spans_Add_post (a0 : (List T_api_Span)) (a1 : Int) (a2 : Int) (v0 : Value) : (List T_api_Span) → Value → IM → HL → Prop :=
  fun (r0 : (List T_api_Span)) (v : Value) (M' : IM) (H' : HL) => ∃ vz0 cz0, vz0 = v ∧ H' = [cz0] ∧ OwnS kd_api_Span M' vz0 r0 cz0
set_option maxHeartbeats 1000000 in
set_option maxRecDepth 100000 in
theorem f_spans_Add_ok (a0 : (List T_api_Span)) (a1 : Int) (a2 : Int) (M : IM) (v0 : Value) (h0 : RS kd_api_Span M v0 a0) (res : (List T_api_Span)) (h : f_spans_Add a0 a1 a2 = some res) :
    Tri Tryd.prog 24 #[v0, (.int .i64 a1), (.int .i64 a2)] M [] (f_spans_Add_post a0 a1 a2 v0 res) := by
 unfold f_spans_Add at h
 refine Tri.enter (fn := Tryd.f24) Tryd.func24 rfl (Nat.le_of_ble_eq_true rfl) ?_
 intro F ρ hρ
 refine Sr ?_
 refine Pa (.slice none 0 0) rfl rfl ?_
 refine Ns ?_
 refine Pm v0 (hρ 0) rfl ?_
 obtain ⟨r21, hr22, h⟩ := bnd h
 refine WL.eff (EO.call0 co40 (f_slices_Clone_api_Span_api_Span_ok a0 _ _ h0 r21 hr22) (args1 rfl)) rfl ?_
 rintro _ M23 _ hle24 ⟨_, ⟨vq25, cq25, rfl, rfl, hq25⟩, rfl⟩
 have h0 := h0.mono hle24
 refine WL.a1 ?_
 refine Pa vq25 rfl rfl ?_
 refine Nt ?_
 obtain ⟨x26, hj27, h⟩ := bnd h
 refine WC.joinF (fun (x26 : (List T_api_Span)) ρ' M' H' => ∃ vx26 cx26, M23.le M' ∧ cx26 :: F = H' ∧ ρ' 1 = (.int .i64 a1) ∧ ρ' 2 = (.int .i64 a2) ∧ ρ' 7 = vx26 ∧ OwnS kd_api_Span M' vx26 x26 cx26) x26 ?_ ?_
 have h327 := h
 have h := hj27
 refine WC.block ?_
 obtain ⟨e28, he28, hK28⟩ := bnd h
 clear h
 refine WC.loop he28 (fun (x29 : (List T_api_Span)) ρ' M' H' => ∃ vx29 cx29, M23.le M' ∧ cx29 :: F = H' ∧ ρ' 1 = (.int .i64 a1) ∧ ρ' 2 = (.int .i64 a2) ∧ ρ' 7 = vx29 ∧ OwnS kd_api_Span M' vx29 x29 cx29) ?_ ?_
 exact ⟨vq25, cq25, (IM.le.refl _), rfl, (hρ 1), (hρ 2), rfl, hq25⟩
 rintro x29 o28 ρ28 M28 H28 h ⟨vx29, cx29, hle28, rfl, hs28_1, hs28_2, hs28_7, hx29⟩
 unfold f_spans_Add_l0 at h
 refine WC.seq ?_
 obtain ⟨x31, hj32, h⟩ := bnd h
 refine WC.joinF (fun (x31 : Bool) ρ' M' H' => M28.le M' ∧ cx29 :: F = H' ∧ ρ' 1 = (.int .i64 a1) ∧ ρ' 2 = (.int .i64 a2) ∧ ρ' 7 = vx29 ∧ ρ' 24 = (.bool x31)) x31 ?_ ?_
 have h332 := h
 have h := hj32
 refine WC.region ?_
 refine Pm vx29 hs28_7 rfl ?_
 refine Pu (.int .i64 (x29.length : Int)) (PO.lenS Tryd.underlying45 rfl hx29.len) rfl ?_
 refine Pu (.bool (decide ((0 : Int) < (x29.length : Int)))) (PO.gtr rfl rfl) rfl ?_
 refine Pm (.bool (decide ((0 : Int) < (x29.length : Int)))) rfl rfl ?_
 rcases Bool.eq_false_or_eq_true (decide ((0 : Int) < (x29.length : Int))) with hb33 | hb33
 have h := ite_t hb33 h
 refine On 14 rfl rfl hb33 ?_
 refine Pm vx29 hs28_7 rfl ?_
 refine On 14 rfl rfl hb33 ?_
 refine Pm vx29 hs28_7 rfl ?_
 refine On 14 rfl rfl hb33 ?_
 refine Pu (.int .i64 (x29.length : Int)) (PO.lenS Tryd.underlying45 rfl hx29.len) rfl ?_
 refine On 14 rfl rfl hb33 ?_
 refine Pu (.int .i64 (IntKind.i64.wrap ((x29.length : Int) - (1 : Int)))) (PO.sub rfl rfl) rfl ?_
 refine On 14 rfl rfl hb33 ?_
 obtain ⟨hg34, h⟩ := grd_i h
 obtain ⟨p35, cs36, hat37, hrc38, hhas39⟩ := hx29.at hg34.1 hg34.2
 obtain rfl := kd_api_Span_open hrc38
 refine Pu (.pointer (some p35)) (PO.indexAddr (n := x29.length) Tryd.underlying45 sz73 rfl rfl hg34.1 hg34.2 hat37) rfl ?_
 refine On 14 rfl rfl hb33 ?_
 refine Pu (.pointer (some (p35.add 1))) (PO.fieldAddr fo73_1 rfl rfl) rfl ?_
 refine On 14 rfl rfl hb33 ?_
 refine Pu (.int .i64 ((rd x29 (IntKind.i64.wrap ((x29.length : Int) - (1 : Int)))).Start)) (PO.loadC 0 pl3 rfl rfl (hhas39 1 _ rfl)) rfl ?_
 refine On 14 rfl rfl hb33 ?_
 refine Pm (.int .i64 a2) hs28_2 rfl ?_
 refine On 14 rfl rfl hb33 ?_
 refine Pu (.bool (decide (a2 ≤ ((rd x29 (IntKind.i64.wrap ((x29.length : Int) - (1 : Int)))).Start)))) (PO.geq rfl rfl) rfl ?_
 refine Pu (.bool (decide (a2 ≤ ((rd x29 (IntKind.i64.wrap ((x29.length : Int) - (1 : Int)))).Start)))) (PO.pickT rfl hb33 rfl) rfl ?_
 refine WL.nil ?_
 obtain rfl := Option.some.inj h
 refine WQ.thenJ ?_
 exact ⟨(IM.le.refl _), rfl, hs28_1, hs28_2, hs28_7, rfl⟩
 have h := ite_f hb33 h
 iterate 9 refine Of 14 rfl rfl hb33 rfl ?_
 refine Pu (.bool false) (PO.pickF rfl hb33 rfl) rfl ?_
 refine WL.nil ?_
 obtain rfl := Option.some.inj h
 refine WQ.thenJ ?_
 exact ⟨(IM.le.refl _), rfl, hs28_1, hs28_2, hs28_7, rfl⟩
 rintro ρ32 M32 H32 ⟨hle32, rfl, hs32_1, hs32_2, hs32_7, hs32_24⟩
 have hx29 := hx29.mono hle32
 refine WC.cond (b := x31) hs32_24 (fun hb41 => ?_) (fun hb41 => ?_)
 have h := ite_t hb41 h
 refine WC.skip ?_
 refine WQ.thenC ?_
 refine WC.block ?_
 refine WC.region ?_
 refine Pm vx29 hs32_7 rfl ?_
 refine Pm vx29 hs32_7 rfl ?_
 refine Pu (.int .i64 (x29.length : Int)) (PO.lenS Tryd.underlying45 rfl hx29.len) rfl ?_
 refine Pu (.int .i64 (IntKind.i64.wrap ((x29.length : Int) - (1 : Int)))) (PO.sub rfl rfl) rfl ?_
 obtain ⟨hg42, h⟩ := grd_i h
 have h43 := hx29.sub hg42.1 hg42.2.1 hg42.2.2
 refine Pu (slV vx29 2 ((0 : Int)).toNat (IntKind.i64.wrap ((x29.length : Int) - (1 : Int))).toNat) (PO.slice (n := x29.length) (l := ((0 : Int)).toNat) (h := (IntKind.i64.wrap ((x29.length : Int) - (1 : Int))).toNat) Tryd.underlying45 sz73 rfl hx29.len hx29.cap (bound0 rfl) ⟨_, _, rfl, (Int.le_trans hg42.1 hg42.2.1), rfl⟩ (Int.toNat_le_toNat hg42.2.1) (toNat_le_len hg42.2.2)) rfl ?_
 refine Pa (slV vx29 2 ((0 : Int)).toNat (IntKind.i64.wrap ((x29.length : Int) - (1 : Int))).toNat) rfl rfl ?_
 refine WL.nil ?_
 refine WQ.blockN ?_
 refine WQ.again (sub x29 (0 : Int) (IntKind.i64.wrap ((x29.length : Int) - (1 : Int)))) (Option.some.inj h).symm ?_
 exact ⟨(slV vx29 2 ((0 : Int)).toNat (IntKind.i64.wrap ((x29.length : Int) - (1 : Int))).toNat), cx29, (hle28.trans hle32), rfl, hs32_1, hs32_2, rfl, h43⟩
 have h := ite_f hb41 h
 refine WC.exit ?_
 refine WQ.thenE ?_
 refine WQ.leaveE x29 (Option.some.inj h).symm (fun heq28 => ?_)
 subst heq28
 have h := hK28
 refine WQ.blockH ?_
 obtain rfl := Option.some.inj h
 refine WQ.thenJ ?_
 exact ⟨vx29, cx29, (hle28.trans hle32), rfl, hs32_1, hs32_2, hs32_7, hx29⟩
 rintro ρ27 M27 H27 ⟨vx26, cx26, hle27, rfl, hs27_1, hs27_2, hs27_7, hx26⟩
 refine WC.seq ?_
 refine Sr ?_
 refine Pm vx26 hs27_7 rfl ?_
 refine Pu (.int .i64 (x26.length : Int)) (PO.lenS Tryd.underlying45 rfl hx26.len) rfl ?_
 refine Pa (.int .i64 (x26.length : Int)) rfl rfl ?_
 refine Nt ?_
 obtain ⟨x44, hj45, h⟩ := bnd h
 refine WC.joinF (fun (x44 : Bool) ρ' M' H' => M27.le M' ∧ cx26 :: F = H' ∧ ρ' 1 = (.int .i64 a1) ∧ ρ' 2 = (.int .i64 a2) ∧ ρ' 7 = vx26 ∧ ρ' 43 = (.bool x44)) x44 ?_ ?_
 have h345 := h
 have h := hj45
 refine WC.region ?_
 refine Pm (.int .i64 (x26.length : Int)) rfl rfl ?_
 refine Pu (.bool (decide ((0 : Int) < (x26.length : Int)))) (PO.gtr rfl rfl) rfl ?_
 refine Pm (.bool (decide ((0 : Int) < (x26.length : Int)))) rfl rfl ?_
 rcases Bool.eq_false_or_eq_true (decide ((0 : Int) < (x26.length : Int))) with hb46 | hb46
 have h := ite_t hb46 h
 refine On 34 rfl rfl hb46 ?_
 refine Pm vx26 hs27_7 rfl ?_
 refine On 34 rfl rfl hb46 ?_
 refine Pm (.int .i64 (x26.length : Int)) rfl rfl ?_
 refine On 34 rfl rfl hb46 ?_
 refine Pu (.int .i64 (IntKind.i64.wrap ((x26.length : Int) - (1 : Int)))) (PO.sub rfl rfl) rfl ?_
 refine On 34 rfl rfl hb46 ?_
 obtain ⟨hg47, h⟩ := grd_i h
 obtain ⟨p48, cs49, hat50, hrc51, hhas52⟩ := hx26.at hg47.1 hg47.2
 obtain rfl := kd_api_Span_open hrc51
 refine Pu (.pointer (some p48)) (PO.indexAddr (n := x26.length) Tryd.underlying45 sz73 rfl rfl hg47.1 hg47.2 hat50) rfl ?_
 refine On 34 rfl rfl hb46 ?_
 refine Pu (.pointer (some (p48.add 0))) (PO.fieldAddr fo73_0 rfl rfl) rfl ?_
 refine On 34 rfl rfl hb46 ?_
 refine Pu (.int .i64 ((rd x26 (IntKind.i64.wrap ((x26.length : Int) - (1 : Int)))).Term)) (PO.loadC 0 pl3 rfl rfl (chunkHas0 hhas52)) rfl ?_
 refine On 34 rfl rfl hb46 ?_
 refine Pm (.int .i64 a1) hs27_1 rfl ?_
 refine On 34 rfl rfl hb46 ?_
 refine Pu (.bool (decide (a1 ≤ ((rd x26 (IntKind.i64.wrap ((x26.length : Int) - (1 : Int)))).Term)))) (PO.geq rfl rfl) rfl ?_
 refine Pu (.bool (decide (a1 ≤ ((rd x26 (IntKind.i64.wrap ((x26.length : Int) - (1 : Int)))).Term)))) (PO.pickT rfl hb46 rfl) rfl ?_
 refine WL.nil ?_
 obtain rfl := Option.some.inj h
 refine WQ.thenJ ?_
 exact ⟨(IM.le.refl _), rfl, hs27_1, hs27_2, hs27_7, rfl⟩
 have h := ite_f hb46 h
 iterate 8 refine Of 34 rfl rfl hb46 rfl ?_
 refine Pu (.bool false) (PO.pickF rfl hb46 rfl) rfl ?_
 refine WL.nil ?_
 obtain rfl := Option.some.inj h
 refine WQ.thenJ ?_
 exact ⟨(IM.le.refl _), rfl, hs27_1, hs27_2, hs27_7, rfl⟩
 rintro ρ45 M45 H45 ⟨hle45, rfl, hs45_1, hs45_2, hs45_7, hs45_43⟩
 have hx26 := hx26.mono hle45
 refine WC.cond (b := x44) hs45_43 (fun hb54 => ?_) (fun hb54 => ?_)
 have h := ite_t hb54 h
 refine Sr ?_
 refine Pm vx26 hs45_7 rfl ?_
 refine Pa vx26 rfl rfl ?_
 refine Nt ?_
 refine WC.ret ?_
 refine WQ.thenR ?_
 exact WQ.returnsF h [cx26] rfl (results1 rfl rfl) ((hle24.trans hle27).trans hle45) ⟨vx26, cx26, rfl, rfl, hx26⟩
 have h := ite_f hb54 h
 refine WC.skip ?_
 refine WQ.thenC ?_
 refine Sr ?_
 refine Pm vx26 hs45_7 rfl ?_
 refine Pm (.int .i64 a1) hs45_1 rfl ?_
 refine Pm (.int .i64 a2) hs45_2 rfl ?_
 refine Pu (.agg #[(.int .i64 a1), (.int .i64 a2)]) (PO.buildL (cl := [(.int .i64 a1), (.int .i64 a2)]) ze73 fp73 (Parts.cons (congrArg Value.cells (show ev _ _ = (.int .i64 a1) from rfl)) (Parts.cons (congrArg Value.cells (show ev _ _ = (.int .i64 a2) from rfl)) Parts.nil)) rfl) rfl ?_
 refine WL.eff (EO.buildSliceL (cl := [(.int .i64 a1), (.int .i64 a2)]) Tryd.underlying45 iz73 rfl (Parts.cons (congrArg Value.cells (show ev _ _ = (.agg #[(.int .i64 a1), (.int .i64 a2)]) from rfl)) Parts.nil) rfl) rfl ?_
 rintro _ _ _ - ⟨rfl, g55, rfl, rfl⟩
 have h57 : OwnS kd_api_Span M45 (.slice (some ⟨g55, 0, none⟩) 1 1) [(⟨a1, a2⟩ : T_api_Span)] [(g55, .cells #[(.int .i64 a1), (.int .i64 a2)] 73 (0, 0))] := OwnS.rows (css := [[(.int .i64 a1), (.int .i64 a2)]]) (Rows.cons (kd_api_Span_mk (x := (⟨a1, a2⟩ : T_api_Span))) Rows.nil) rfl rfl
 obtain ⟨hg61, h⟩ := grd_i h
 refine WL.f1 ?_
 refine WL.eff (EO.append (dd := kd_api_Span) (xs := x26) (ys := [(⟨a1, a2⟩ : T_api_Span)]) Tryd.underlying45 Tryd.underlying45 in73 rfl (appB (by decide) hg61) (by decide) rfl rfl hx26 (h57.src 1 rfl)) rfl ?_
 rintro v60 _ _ - ⟨rfl, c58, rfl, h59⟩
 refine Pa v60 rfl rfl ?_
 refine Nt ?_
 refine WC.ret ?_
 refine WQ.f1 ?_
 refine WQ.drop ?_
 exact WQ.returnsF h [c58] rfl (results1 rfl rfl) ((hle24.trans hle27).trans hle45) ⟨v60, c58, rfl, rfl, h59⟩

noncomputable def f_fault_New (a0 : ByteArray) (a1 : Int) (a2 : Int) : Option GErr :=
  (some (GErr.fault a0 a1 (GErr.code a2)))
def f_fault_New_post (a0 : ByteArray) (a1 : Int) (a2 : Int) : GErr → Value → IM → HL → Prop :=
  fun (r0 : GErr) (v : Value) (M' : IM) (H' : HL) => (GV r0) = v ∧ H' = []
set_option maxHeartbeats 1000000 in
set_option maxRecDepth 100000 in
theorem f_fault_New_ok (a0 : ByteArray) (a1 : Int) (a2 : Int) (M : IM) (res : GErr) (h : f_fault_New a0 a1 a2 = some res) :
    Tri Tryd.prog 29 #[(.string a0), (.int .i64 a1), (.int .i64 a2)] M [] (f_fault_New_post a0 a1 a2 res) := by
 unfold f_fault_New at h
 refine Tri.enter (fn := Tryd.f29) Tryd.func29 rfl (Nat.le_of_ble_eq_true rfl) ?_
 intro F ρ hρ
 refine Sr ?_
 refine Pa (GV GErr.nil) rfl rfl ?_
 refine Ns ?_
 refine Pm (.string a0) (hρ 0) rfl ?_
 refine Pm (.int .i64 a1) (hρ 1) rfl ?_
 refine Pm (.int .i64 a2) (hρ 2) rfl ?_
 refine Pu (GV (GErr.code a2)) (PO.makeInterface cc35 rfl) rfl ?_
 refine Pu (.agg #[(.string a0), (.int .i64 a1), (GV (GErr.code a2))]) (PO.buildL (cl := [(.string a0), (.int .i64 a1), (GV (GErr.code a2))]) ze65 fp65 (Parts.cons (congrArg Value.cells (show ev _ _ = (.string a0) from rfl)) (Parts.cons (congrArg Value.cells (show ev _ _ = (.int .i64 a1) from rfl)) (Parts.cons ((congrArg Value.cells (show ev _ _ = (GV (GErr.code a2)) from rfl)).trans (GErr.val_cells _ _ _ _)) Parts.nil))) rfl) rfl ?_
 refine Pu (GV (GErr.fault a0 a1 (GErr.code a2))) (PO.makeInterface cc65 rfl) rfl ?_
 refine Pa (GV (GErr.fault a0 a1 (GErr.code a2))) rfl rfl ?_
 refine Nt ?_
 refine WC.ret ?_
 exact WQ.returnsF h [] rfl (results1 rfl rfl) (IM.le.refl _) ⟨rfl, rfl⟩


end Go.Proofs.YtmifmgpfjamdkaaDoor.G
