/- Go functions: what they come to, and that they do. Printed by a program of the session (gen). -/
import Derived.Test.YtjiffdgidodebaaGreatDoorKF
import Derived.Test.YtjiffdgidodebaaGreatDoorK15
import Derived.Test.YtjiffdgidodebaaGreatDoorKShar2
import Derived.Test.YtjiffdgidodebaaGreatDoorKConv
set_option linter.unusedVariables false
set_option linter.unusedSimpArgs false
set_option maxHeartbeats 8000000
set_option maxRecDepth 100000
namespace Go.Proofs.YtjiffdgidodebaaGreatDoor.G
open Go Go.KK

noncomputable def f_ref06_Same_l0 (a0 : T_api_Batch) (a1 : T_api_Batch) (s_ : Int) : Option (Int ⊕ (Unit ⊕ Unit)) :=
  match s_ with
  | x30 =>
    (if (decide (x30 < (a0.Records.length : Int))) = true then (grd (0 ≤ x30 ∧ x30 < a0.Records.length) (grd (0 ≤ x30 ∧ x30 < a1.Records.length) ((f_ref05_Same (rd a0.Records x30) (rd a1.Records x30)).bind fun (r46 : Bool) => (if (!r46) = true then (some (Sum.inr (Sum.inr ()))) else (some (Sum.inl (IntKind.i64.wrap (x30 + (1 : Int))))))))) else (some (Sum.inr (Sum.inl ()))))
noncomputable def f_ref06_Same (a0 : T_api_Batch) (a1 : T_api_Batch) : Option Bool :=
  (((if (decide (a0.Term ≠ a1.Term)) = true then (some true) else (if (decide (a0.Base ≠ a1.Base)) = true then (some true) else (some (decide ((a0.Records.length : Int) ≠ (a1.Records.length : Int)))))) : Option Bool).bind fun (x23 : Bool) => (if x23 = true then (some false) else ((((iter (f_ref06_Same_l0 a0 a1) (0 : Int)).bind (Sum.elim (fun _ => (some (Sum.inl ()))) (fun _ => (((some false)).bind fun r => some (Sum.inr r))))) : Option (Unit ⊕ Bool)).bind (Sum.elim (fun _ => (some true)) some))))
def f_ref06_Same_post (a0 : T_api_Batch) (a1 : T_api_Batch) (v0_2 v1_2 : Value) : Bool → Value → IM → HL → Prop :=
  fun (r0 : Bool) (v : Value) (M' : IM) (H' : HL) => (.bool r0) = v ∧ H' = []
theorem f_ref06_Same_ok (a0 : T_api_Batch) (a1 : T_api_Batch) (M : IM) (v0_2 v1_2 : Value) (h0_2 : RS kd_api_Record M v0_2 a0.Records) (h1_2 : RS kd_api_Record M v1_2 a1.Records) (res : Bool) (h : f_ref06_Same a0 a1 = some res) :
    Tri Tryz.prog 12 #[(a24_ a0 v0_2), (a24_ a1 v1_2)] M [] (f_ref06_Same_post a0 a1 v0_2 v1_2 res) := by
 unfold f_ref06_Same at h
 refine Tri.enter (fn := Tryz.f12) Tryz.func12 rfl (Nat.le_of_ble_eq_true rfl) ?_
 intro F ρ hρ
 refine Sr ?_
 refine WL.eff (EO.box (cs := (l24 a0 v0_2).toArray) (congrArg Value.cells (asE (a24_ a0 v0_2) (hρ 0)))) rfl ?_
 rintro _ _ _ - ⟨rfl, g21, rfl, rfl⟩
 refine WL.eff (EO.box (cs := (l24 a1 v1_2).toArray) (congrArg Value.cells (asE (a24_ a1 v1_2) (hρ 1)))) rfl ?_
 rintro _ _ _ - ⟨rfl, g22, rfl, rfl⟩
 refine Pa (.bool false) rfl rfl ?_
 refine Nt ?_
 refine WC.seq ?_
 obtain ⟨x23, hj24, h⟩ := bnd h
 refine WC.joinF (fun (x23 : Bool) ρ' M' H' => M.le M' ∧ [(g22, .cells (l24 a1 v1_2).toArray 24 (0, 0))] :: [(g21, .cells (l24 a0 v0_2).toArray 24 (0, 0))] :: F = H' ∧ ρ' 2 = (pt g21 0) ∧ ρ' 3 = (pt g22 0) ∧ ρ' 26 = (.bool x23)) x23 ?_ ?_
 have h324 := h
 have h := hj24
 refine WC.region ?_
 refine Pu (pt g21 0) (PO.fieldAddr fo24_0 rfl rfl) rfl ?_
 refine Pu (.int .i64 a0.Term) (PO.loadB 1 pl3 rfl rfl rfl) rfl ?_
 refine Pu (pt g22 0) (PO.fieldAddr fo24_0 rfl rfl) rfl ?_
 refine Pu (.int .i64 a1.Term) (PO.loadB 0 pl3 rfl rfl rfl) rfl ?_
 refine Pu (.bool (decide (a0.Term ≠ a1.Term))) (PO.neq rfl rfl) rfl ?_
 refine Pm (.bool (decide (a0.Term ≠ a1.Term))) rfl rfl ?_
 rcases Bool.eq_false_or_eq_true (decide (a0.Term ≠ a1.Term)) with hb25 | hb25
 have h := ite_t hb25 h
 iterate 5 refine Of 11 rfl rfl hb25 rfl ?_
 refine Pu (.bool true) (PO.pickT rfl hb25 rfl) rfl ?_
 refine Pm (.bool true) rfl rfl ?_
 iterate 7 refine Of 18 rfl rfl rfl rfl ?_
 refine Pu (.bool true) (PO.pickT rfl rfl rfl) rfl ?_
 refine WL.nil ?_
 obtain rfl := Option.some.inj h
 refine WQ.thenJ ?_
 exact ⟨(IM.le.refl _), rfl, rfl, rfl, rfl⟩
 have h := ite_f hb25 h
 refine On 11 rfl rfl hb25 ?_
 refine Pu (pt g21 1) (PO.fieldAddr fo24_1 rfl rfl) rfl ?_
 refine On 11 rfl rfl hb25 ?_
 refine Pu (.int .i64 a0.Base) (PO.loadB 1 pl3 rfl rfl rfl) rfl ?_
 refine On 11 rfl rfl hb25 ?_
 refine Pu (pt g22 1) (PO.fieldAddr fo24_1 rfl rfl) rfl ?_
 refine On 11 rfl rfl hb25 ?_
 refine Pu (.int .i64 a1.Base) (PO.loadB 0 pl3 rfl rfl rfl) rfl ?_
 refine On 11 rfl rfl hb25 ?_
 refine Pu (.bool (decide (a0.Base ≠ a1.Base))) (PO.neq rfl rfl) rfl ?_
 refine Pu (.bool (decide (a0.Base ≠ a1.Base))) (PO.pickF rfl hb25 rfl) rfl ?_
 refine Pm (.bool (decide (a0.Base ≠ a1.Base))) rfl rfl ?_
 rcases Bool.eq_false_or_eq_true (decide (a0.Base ≠ a1.Base)) with hb26 | hb26
 have h := ite_t hb26 h
 iterate 7 refine Of 18 rfl rfl hb26 rfl ?_
 refine Pu (.bool true) (PO.pickT rfl hb26 rfl) rfl ?_
 refine WL.nil ?_
 obtain rfl := Option.some.inj h
 refine WQ.thenJ ?_
 exact ⟨(IM.le.refl _), rfl, rfl, rfl, rfl⟩
 have h := ite_f hb26 h
 refine On 18 rfl rfl hb26 ?_
 refine Pu (pt g21 2) (PO.fieldAddr fo24_2 rfl rfl) rfl ?_
 refine On 18 rfl rfl hb26 ?_
 refine Pu v0_2 (PO.loadB 1 pl22 rfl rfl rfl) rfl ?_
 refine On 18 rfl rfl hb26 ?_
 refine Pu (.int .i64 (a0.Records.length : Int)) (PO.lenS Tryz.underlying22 rfl h0_2.len) rfl ?_
 refine On 18 rfl rfl hb26 ?_
 refine Pu (pt g22 2) (PO.fieldAddr fo24_2 rfl rfl) rfl ?_
 refine On 18 rfl rfl hb26 ?_
 refine Pu v1_2 (PO.loadB 0 pl22 rfl rfl rfl) rfl ?_
 refine On 18 rfl rfl hb26 ?_
 refine Pu (.int .i64 (a1.Records.length : Int)) (PO.lenS Tryz.underlying22 rfl h1_2.len) rfl ?_
 refine On 18 rfl rfl hb26 ?_
 refine Pu (.bool (decide ((a0.Records.length : Int) ≠ (a1.Records.length : Int)))) (PO.neq rfl rfl) rfl ?_
 refine Pu (.bool (decide ((a0.Records.length : Int) ≠ (a1.Records.length : Int)))) (PO.pickF rfl hb26 rfl) rfl ?_
 refine WL.nil ?_
 obtain rfl := Option.some.inj h
 refine WQ.thenJ ?_
 exact ⟨(IM.le.refl _), rfl, rfl, rfl, rfl⟩
 rintro ρ24 M24 H24 ⟨hle24, rfl, hs24_2, hs24_3, hs24_26⟩
 have h1_2 := h1_2.mono hle24
 have h0_2 := h0_2.mono hle24
 refine WC.cond (b := x23) hs24_26 (fun hb27 => ?_) (fun hb27 => ?_)
 have h := ite_t hb27 h
 refine Sr ?_
 refine Pa (.bool false) rfl rfl ?_
 refine Nt ?_
 refine WC.ret ?_
 refine WQ.thenR ?_
 refine WQ.drop ?_
 refine WQ.drop ?_
 exact WQ.returnsF h [] rfl (results1 rfl rfl) hle24 ⟨rfl, rfl⟩
 have h := ite_f hb27 h
 refine WC.skip ?_
 refine WQ.thenC ?_
 obtain ⟨j28, hj28, h⟩ := bnd h
 refine WC.joinE (fun (_ : Unit) ρ' M' H' => M24.le M' ∧ [(g22, .cells (l24 a1 v1_2).toArray 24 (0, 0))] :: [(g21, .cells (l24 a0 v0_2).toArray 24 (0, 0))] :: F = H') j28 ?_ ?_
 have h328 := h
 have h := hj28
 refine Sr ?_
 refine Pa (.int .i64 0) rfl rfl ?_
 refine Nt ?_
 refine WC.block ?_
 obtain ⟨e29, he29, hK29⟩ := bnd h
 clear h
 refine WC.loop he29 (fun (x30 : Int) ρ' M' H' => M24.le M' ∧ [(g22, .cells (l24 a1 v1_2).toArray 24 (0, 0))] :: [(g21, .cells (l24 a0 v0_2).toArray 24 (0, 0))] :: F = H' ∧ ρ' 2 = (pt g21 0) ∧ ρ' 3 = (pt g22 0) ∧ ρ' 5 = (.int .i64 x30)) ?_ ?_
 exact ⟨(IM.le.refl _), rfl, hs24_2, hs24_3, rfl⟩
 rintro x30 o29 ρ29 M29 H29 h ⟨hle29, rfl, hs29_2, hs29_3, hs29_5⟩
 unfold f_ref06_Same_l0 at h
 have h1_2 := h1_2.mono hle29
 have h0_2 := h0_2.mono hle29
 refine WC.seq ?_
 refine Sr ?_
 refine Pm (.int .i64 x30) hs29_5 rfl ?_
 refine Pu (pt g21 2) (PO.fieldAddr fo24_2 hs29_2 rfl) rfl ?_
 refine Pu v0_2 (PO.loadB 1 pl22 rfl rfl rfl) rfl ?_
 refine Pu (.int .i64 (a0.Records.length : Int)) (PO.lenS Tryz.underlying22 rfl h0_2.len) rfl ?_
 refine Pu (.bool (decide (x30 < (a0.Records.length : Int)))) (PO.lss rfl rfl) rfl ?_
 refine Nt ?_
 refine WC.cond (b := decide (x30 < (a0.Records.length : Int))) rfl (fun hb31 => ?_) (fun hb31 => ?_)
 have h := ite_t hb31 h
 refine WC.skip ?_
 refine WQ.thenC ?_
 refine WC.seq ?_
 refine WC.block ?_
 refine WC.seq ?_
 refine WC.draw [0, 1, 0, 7, 15, 0, 32, 0, 224, 480, 1023, 2047] (.pure 0 (.pure 1 (.pure 2 (.pure 3 (.pure 4 (.pure 5 (.pure 6 (.pure 7 (.pure 8 (.pure 9 (.alt 10 (.pure 11 .done) .none))))))))))) mixed (by kernel_rfl) ?_
 refine Tp (pt g21 2) rfl (PO.fieldAddr fo24_2 hs29_2 rfl) rfl ?_
 refine Tp v0_2 rfl (PO.loadB 1 pl22 rfl rfl rfl) rfl ?_
 refine Tp (.int .i64 x30) rfl (PO.move hs29_5) rfl ?_
 obtain ⟨hg32, h⟩ := grd_i h
 obtain ⟨p33, cs34, hat35, hrc36, hhas37⟩ := h0_2.at hg32.1 hg32.2 (by decide)
 obtain ⟨vw38_14, vw38_15, vw38_16, vw38_17, rfl, hw38_14, hw38_15, hw38_16, hw38_17⟩ := kd_api_Record_open hrc36
 refine Tp (.pointer (some p33)) rfl (PO.indexAddr (n := a0.Records.length) Tryz.underlying22 sz67 rfl rfl hg32.1 hg32.2 hat35) rfl ?_
 refine Tp (a67_ (rd a0.Records x30) vw38_14 vw38_15 vw38_16 vw38_17) rfl (PO.loadMA (cs := (l67 (rd a0.Records x30) vw38_14 vw38_15 vw38_16 vw38_17)) ag67 sz67 rfl hhas37) rfl ?_
 refine Tp (pt g22 2) rfl (PO.fieldAddr fo24_2 hs29_3 rfl) rfl ?_
 refine Tp v1_2 rfl (PO.loadB 0 pl22 rfl rfl rfl) rfl ?_
 refine Tp (.int .i64 x30) rfl (PO.move hs29_5) rfl ?_
 obtain ⟨hg39, h⟩ := grd_i h
 obtain ⟨p40, cs41, hat42, hrc43, hhas44⟩ := h1_2.at hg39.1 hg39.2 (by decide)
 obtain ⟨vw45_14, vw45_15, vw45_16, vw45_17, rfl, hw45_14, hw45_15, hw45_16, hw45_17⟩ := kd_api_Record_open hrc43
 refine Tp (.pointer (some p40)) rfl (PO.indexAddr (n := a1.Records.length) Tryz.underlying22 sz67 rfl rfl hg39.1 hg39.2 hat42) rfl ?_
 refine Tp (a67_ (rd a1.Records x30) vw45_14 vw45_15 vw45_16 vw45_17) rfl (PO.loadMA (cs := (l67 (rd a1.Records x30) vw45_14 vw45_15 vw45_16 vw45_17)) ag67 sz67 rfl hhas44) rfl ?_
 obtain ⟨r46, hr47, h⟩ := bnd h
 refine WT.alt rfl (EO.call0 co37 (f_ref05_Same_ok (rd a0.Records x30) (rd a1.Records x30) _ _ _ _ _ _ _ _ _ hw38_14 hw38_15 hw38_16 hw38_17 hw45_14 hw45_15 hw45_16 hw45_17 r46 hr47) (args2 rfl rfl)) rfl ?_ ?_
 rintro _ M48 _ hle49 ⟨_, ⟨rfl, rfl⟩, rfl⟩
 have h0_2 := h0_2.mono hle49
 have hhas37 := hhas37.mono hle49
 have hw38_14 := hw38_14.mono hle49
 have hw38_15 := hw38_15.mono hle49
 have hw38_16 := hw38_16.mono hle49
 have hw38_17 := hw38_17.mono hle49
 have h1_2 := h1_2.mono hle49
 have hhas44 := hhas44.mono hle49
 have hw45_14 := hw45_14.mono hle49
 have hw45_15 := hw45_15.mono hle49
 have hw45_16 := hw45_16.mono hle49
 have hw45_17 := hw45_17.mono hle49
 refine ⟨(StabL.anc rfl (StabL.anc rfl (StabL.anc rfl (StabL.anc rfl (StabL.anc rfl (StabL.anc rfl (StabL.anc rfl (StabL.anc rfl (StabL.anc rfl (StabL.anc rfl trivial)))))))))), ?_⟩
 refine WT.a0 ?_
 refine Tp (.bool (!r46)) rfl (PO.not rfl) rfl ?_
 refine WT.fin ?_
 refine WQ.thenC ?_
 refine WC.cond (b := !r46) rfl (fun hb51 => ?_) (fun hb51 => ?_)
 have h := ite_t hb51 h
 refine Sr ?_
 refine Pa (.bool false) rfl rfl ?_
 refine Nt ?_
 refine WC.ret ?_
 refine WQ.blockR ?_
 refine WQ.thenR ?_
 refine WQ.leaveR (Sum.inr ()) (Option.some.inj h).symm (fun heq29 => ?_)
 subst heq29
 have h := (elimR hK29)
 refine WQ.blockR ?_
 refine WQ.thenR ?_
 have h := KK.early h h328
 refine WQ.drop ?_
 refine WQ.drop ?_
 exact WQ.returnsF h [] rfl (results1 rfl rfl) ((hle24.trans hle29).trans hle49) ⟨rfl, rfl⟩
 have h := ite_f hb51 h
 refine WC.skip ?_
 refine WQ.blockN ?_
 refine WQ.thenC ?_
 refine WC.region ?_
 refine Pm (.int .i64 x30) hs29_5 rfl ?_
 refine Pu (.int .i64 (IntKind.i64.wrap (x30 + 1))) (PO.add rfl rfl) rfl ?_
 refine Pa (.int .i64 (IntKind.i64.wrap (x30 + 1))) rfl rfl ?_
 refine WL.nil ?_
 refine WQ.again (IntKind.i64.wrap (x30 + 1)) (Option.some.inj h).symm ?_
 exact ⟨(hle29.trans hle49), rfl, hs29_2, hs29_3, rfl⟩
 exact WT.no
 have h := ite_f hb31 h
 refine WC.exit ?_
 refine WQ.thenE ?_
 refine WQ.leaveE (Sum.inl ()) (Option.some.inj h).symm (fun heq29 => ?_)
 subst heq29
 have h := elimL hK29
 refine WQ.blockH ?_
 refine WQ.thenFE h ?_
 exact ⟨hle29, rfl⟩
 rintro _ ρ28 M28 H28 rfl ⟨hle28, rfl⟩
 have h := (Sum.elim_inl _ _ _).symm.trans h
 have h1_2 := h1_2.mono hle28
 have h0_2 := h0_2.mono hle28
 refine Sr ?_
 refine Pa (.bool true) rfl rfl ?_
 refine Nt ?_
 refine WC.ret ?_
 refine WQ.drop ?_
 refine WQ.drop ?_
 exact WQ.returnsF h [] rfl (results1 rfl rfl) (hle24.trans hle28) ⟨rfl, rfl⟩

noncomputable def f_law06_BatchChecks (a0 : T_api_Batch) (a1 : T_api_Batch) : Option Bool :=
  ((((f_ref06_Short a0.Records).bind fun (r25 : Bool) => (if (!r25) = true then (some true) else ((f_ref06_Short a1.Records).bind fun (r31 : Bool) => (some (!r31))))) : Option Bool).bind fun (x23 : Bool) => (if x23 = true then ((f_law06_works).bind fun (r37 : Bool) => (some r37)) else ((((f_batch_Check a0).bind fun (r44 : GErr) => ((f_ref06_Check a0).bind fun (r49 : T_ref06_Wrong) => ((f_law06_wrong r44 r49).bind fun (r54 : Bool) => (if r54 = true then ((f_batch_Same a0 a1).bind fun (r60 : Bool) => ((f_ref06_Same a0 a1).bind fun (r65 : Bool) => (if (r60 == r65) = true then ((f_batch_Copy a0).bind fun (r71 : T_api_Batch) => ((f_ref06_Same r71 a0).bind fun (r76 : Bool) => (if r76 = true then ((f_batch_Of a0.Term a0.Base a0.Records).bind fun (r85 : T_api_Batch) => ((f_ref06_Same r85 a0).bind fun (r90 : Bool) => (if r90 = true then ((f_law06_works).bind fun (r99 : Bool) => (some r99)) else (some false)))) else (some false)))) else (some false)))) else (some false))))) : Option Bool).bind fun (x42 : Bool) => (some x42))))
def f_law06_BatchChecks_post (a0 : T_api_Batch) (a1 : T_api_Batch) (v0_2 v1_2 : Value) : Bool → Value → IM → HL → Prop :=
  fun (r0 : Bool) (v : Value) (M' : IM) (H' : HL) => (.bool r0) = v ∧ H' = []
theorem f_law06_BatchChecks_ok (a0 : T_api_Batch) (a1 : T_api_Batch) (M : IM) (v0_2 v1_2 : Value) (h0_2 : RS kd_api_Record M v0_2 a0.Records) (h1_2 : RS kd_api_Record M v1_2 a1.Records) (hE : Env M) (res : Bool) (h : f_law06_BatchChecks a0 a1 = some res) :
    Tri Tryz.prog 3 #[(a24_ a0 v0_2), (a24_ a1 v1_2)] M [] (f_law06_BatchChecks_post a0 a1 v0_2 v1_2 res) := by
 unfold f_law06_BatchChecks at h
 refine Tri.enter (fn := Tryz.f3) Tryz.func3 rfl (Nat.le_of_ble_eq_true rfl) ?_
 intro F ρ hρ
 refine Sr ?_
 refine WL.eff (EO.box (cs := (l24 a0 v0_2).toArray) (congrArg Value.cells (asE (a24_ a0 v0_2) (hρ 0)))) rfl ?_
 rintro _ _ _ - ⟨rfl, g21, rfl, rfl⟩
 refine WL.eff (EO.box (cs := (l24 a1 v1_2).toArray) (congrArg Value.cells (asE (a24_ a1 v1_2) (hρ 1)))) rfl ?_
 rintro _ _ _ - ⟨rfl, g22, rfl, rfl⟩
 refine Pa (.bool false) rfl rfl ?_
 refine Nt ?_
 refine WC.seq ?_
 obtain ⟨x23, hj24, h⟩ := bnd h
 refine WC.joinF (fun (x23 : Bool) ρ' M' H' => M.le M' ∧ [(g22, .cells (l24 a1 v1_2).toArray 24 (0, 0))] :: [(g21, .cells (l24 a0 v0_2).toArray 24 (0, 0))] :: F = H' ∧ ρ' 2 = (pt g21 0) ∧ ρ' 3 = (pt g22 0) ∧ ρ' 14 = (.bool x23)) x23 ?_ ?_
 have h324 := h
 have h := hj24
 refine WC.region ?_
 refine Pu (pt g21 2) (PO.fieldAddr fo24_2 rfl rfl) rfl ?_
 refine Pu v0_2 (PO.loadB 1 pl22 rfl rfl rfl) rfl ?_
 obtain ⟨r25, hr26, h⟩ := bnd h
 refine WL.eff (EO.call0 co6 (f_ref06_Short_ok a0.Records _ _ h0_2 r25 hr26) (args1 rfl)) rfl ?_
 rintro _ M27 _ hle28 ⟨_, ⟨rfl, rfl⟩, rfl⟩
 have h0_2 := h0_2.mono hle28
 have h1_2 := h1_2.mono hle28
 have hE := hE.mono hle28
 refine WL.a0 ?_
 refine Pu (.bool (!r25)) (PO.not rfl) rfl ?_
 refine Pm (.bool (!r25)) rfl rfl ?_
 rcases Bool.eq_false_or_eq_true (!r25) with hb30 | hb30
 have h := ite_t hb30 h
 iterate 4 refine Of 9 rfl rfl hb30 rfl ?_
 refine Pu (.bool true) (PO.pickT rfl hb30 rfl) rfl ?_
 refine WL.nil ?_
 obtain rfl := Option.some.inj h
 refine WQ.thenJ ?_
 exact ⟨hle28, rfl, rfl, rfl, rfl⟩
 have h := ite_f hb30 h
 refine On 9 rfl rfl hb30 ?_
 refine Pu (pt g22 2) (PO.fieldAddr fo24_2 rfl rfl) rfl ?_
 refine On 9 rfl rfl hb30 ?_
 refine Pu v1_2 (PO.loadB 0 pl22 rfl rfl rfl) rfl ?_
 refine On 9 rfl rfl hb30 ?_
 obtain ⟨r31, hr32, h⟩ := bnd h
 refine WL.eff (EO.call0 co6 (f_ref06_Short_ok a1.Records _ _ h1_2 r31 hr32) (args1 rfl)) rfl ?_
 rintro _ M33 _ hle34 ⟨_, ⟨rfl, rfl⟩, rfl⟩
 have h0_2 := h0_2.mono hle34
 have h1_2 := h1_2.mono hle34
 have hE := hE.mono hle34
 refine WL.a0 ?_
 refine On 9 rfl rfl hb30 ?_
 refine Pu (.bool (!r31)) (PO.not rfl) rfl ?_
 refine Pu (.bool (!r31)) (PO.pickF rfl hb30 rfl) rfl ?_
 refine WL.nil ?_
 obtain rfl := Option.some.inj h
 refine WQ.thenJ ?_
 exact ⟨(hle28.trans hle34), rfl, rfl, rfl, rfl⟩
 rintro ρ24 M24 H24 ⟨hle24, rfl, hs24_2, hs24_3, hs24_14⟩
 have h1_2 := h1_2.mono hle24
 have h0_2 := h0_2.mono hle24
 have hE := hE.mono hle24
 refine WC.cond (b := x23) hs24_14 (fun hb36 => ?_) (fun hb36 => ?_)
 have h := ite_t hb36 h
 refine Sr ?_
 obtain ⟨r37, hr38, h⟩ := bnd h
 refine WL.eff (EO.call0 co7 (f_law06_works_ok _ hE r37 hr38) (args0)) rfl ?_
 rintro _ M39 _ hle40 ⟨_, ⟨rfl, rfl⟩, rfl⟩
 have h1_2 := h1_2.mono hle40
 have h0_2 := h0_2.mono hle40
 have hE := hE.mono hle40
 refine WL.a0 ?_
 refine Pa (.bool r37) rfl rfl ?_
 refine Nt ?_
 refine WC.ret ?_
 refine WQ.thenR ?_
 refine WQ.drop ?_
 refine WQ.drop ?_
 exact WQ.returnsF h [] rfl (results1 rfl rfl) (hle24.trans hle40) ⟨rfl, rfl⟩
 have h := ite_f hb36 h
 refine WC.skip ?_
 refine WQ.thenC ?_
 obtain ⟨x42, hj43, h⟩ := bnd h
 refine WC.joinF (fun (x42 : Bool) ρ' M' H' => M24.le M' ∧ [(g22, .cells (l24 a1 v1_2).toArray 24 (0, 0))] :: [(g21, .cells (l24 a0 v0_2).toArray 24 (0, 0))] :: F = H' ∧ ρ' 4 = (.bool x42)) x42 ?_ ?_
 have h343 := h
 have h := hj43
 refine WC.draw [0, 1, 0, 7, 15, 31, 63, 63, 255, 63, 63, 2047, 4095, 8191, 16383, 32767, 65535, 32767, 262143, 524287, 1048575, 2097151, 4194303, 2097151, 10485759, 2097151, 35651583, 134217727, 2097151, 536870911, 1073741823, 2147483647, 4294967295, 8589934591, 17179869183] (.pure 0 (.pure 2 (.alt 1 (.alt 3 (.alt 4 (.pure 5 (.pure 6 (.pure 7 (.pure 9 (.pure 10 (.alt 8 (.alt 11 (.pure 12 (.pure 13 (.pure 14 (.pure 15 (.pure 17 (.alt 16 (.alt 18 (.pure 19 (.pure 20 (.pure 21 (.pure 22 (.pure 23 (.pure 24 (.pure 25 (.pure 26 (.pure 28 (.alt 27 (.alt 29 (.pure 30 (.pure 31 (.alt 32 (.pure 33 (.pure 34 .done)) .none))) .none) .none)))))))))) .none) .none)))))) .none) .none)))))) .none) .none) .none))) mixed (by kernel_rfl) ?_
 refine Tp (a24_ a0 v0_2) rfl (PO.loadBA (cs := (l24 a0 v0_2)) 1 ag24 sz24 hs24_2 rfl rfl) rfl ?_
 refine Tp (a24_ a0 v0_2) rfl (PO.loadBA (cs := (l24 a0 v0_2)) 1 ag24 sz24 hs24_2 rfl rfl) rfl ?_
 obtain ⟨r44, hr45, h⟩ := bnd h
 refine WT.alt rfl (EO.call0 co9 (f_batch_Check_ok a0 _ _ h0_2 r44 hr45) (args1 rfl)) rfl ?_ ?_
 rintro _ M46 _ hle47 ⟨_, ⟨rfl, rfl⟩, rfl⟩
 have h0_2 := h0_2.mono hle47
 have h1_2 := h1_2.mono hle47
 have hE := hE.mono hle47
 refine ⟨(StabL.st (StabA.of rfl (PO.loadBA (cs := (l24 a0 v0_2)) 1 ag24 sz24 hs24_2 rfl rfl) rfl) (StabL.anc rfl trivial)), ?_⟩
 refine WT.a0 ?_
 obtain ⟨r49, hr50, h⟩ := bnd h
 refine WT.alt rfl (EO.call0 co10 (f_ref06_Check_ok a0 _ _ h0_2 r49 hr50) (args1 rfl)) rfl ?_ ?_
 rintro _ M51 _ hle52 ⟨_, ⟨rfl, rfl⟩, rfl⟩
 have h0_2 := h0_2.mono hle52
 have h1_2 := h1_2.mono hle52
 have hE := hE.mono hle52
 refine ⟨(StabL.anc rfl (StabL.anc rfl trivial)), ?_⟩
 refine WT.a0 ?_
 obtain ⟨r54, hr55, h⟩ := bnd h
 refine WT.alt rfl (EO.call0 co8 (f_law06_wrong_ok r44 r49 _ hE r54 hr55) (args2 rfl rfl)) rfl ?_ ?_
 rintro _ M56 _ hle57 ⟨_, ⟨rfl, rfl⟩, rfl⟩
 have h0_2 := h0_2.mono hle57
 have h1_2 := h1_2.mono hle57
 have hE := hE.mono hle57
 refine ⟨(StabL.anc rfl (StabL.anc rfl trivial)), ?_⟩
 refine WT.a0 ?_
 refine Tp (.bool r54) rfl (PO.move rfl) rfl ?_
 rcases Bool.eq_false_or_eq_true (r54) with hb59 | hb59
 have h := ite_t hb59 h
 refine Tn (a24_ a0 v0_2) 21 rfl rfl rfl hb59 (PO.loadBA (cs := (l24 a0 v0_2)) 1 ag24 sz24 hs24_2 rfl rfl) rfl ?_
 refine Tn (a24_ a1 v1_2) 21 rfl rfl rfl hb59 (PO.loadBA (cs := (l24 a1 v1_2)) 0 ag24 sz24 hs24_3 rfl rfl) rfl ?_
 refine Tn (a24_ a0 v0_2) 21 rfl rfl rfl hb59 (PO.loadBA (cs := (l24 a0 v0_2)) 1 ag24 sz24 hs24_2 rfl rfl) rfl ?_
 refine Tn (a24_ a1 v1_2) 21 rfl rfl rfl hb59 (PO.loadBA (cs := (l24 a1 v1_2)) 0 ag24 sz24 hs24_3 rfl rfl) rfl ?_
 obtain ⟨r60, hr61, h⟩ := bnd h
 refine WT.altOn 21 rfl rfl rfl hb59 (EO.call0 co11 (f_batch_Same_ok a0 a1 _ _ _ h0_2 h1_2 r60 hr61) (args2 rfl rfl)) rfl ?_ ?_
 rintro _ M62 _ hle63 ⟨_, ⟨rfl, rfl⟩, rfl⟩
 have h0_2 := h0_2.mono hle63
 have h1_2 := h1_2.mono hle63
 have hE := hE.mono hle63
 refine ⟨(StabL.st (StabA.on 21 rfl rfl rfl hb59 (PO.loadBA (cs := (l24 a1 v1_2)) 0 ag24 sz24 hs24_3 rfl rfl) rfl) (StabL.st (StabA.on 21 rfl rfl rfl hb59 (PO.loadBA (cs := (l24 a0 v0_2)) 1 ag24 sz24 hs24_2 rfl rfl) rfl) (StabL.anc rfl (StabL.anc rfl (StabL.anc rfl (StabL.anc rfl (StabL.anc rfl trivial))))))), ?_⟩
 refine WT.a0 ?_
 obtain ⟨r65, hr66, h⟩ := bnd h
 refine WT.altOn 21 rfl rfl rfl hb59 (EO.call0 co12 (f_ref06_Same_ok a0 a1 _ _ _ h0_2 h1_2 r65 hr66) (args2 rfl rfl)) rfl ?_ ?_
 rintro _ M67 _ hle68 ⟨_, ⟨rfl, rfl⟩, rfl⟩
 have h0_2 := h0_2.mono hle68
 have h1_2 := h1_2.mono hle68
 have hE := hE.mono hle68
 refine ⟨(StabL.anc rfl (StabL.anc rfl (StabL.anc rfl (StabL.anc rfl (StabL.anc rfl (StabL.anc rfl (StabL.anc rfl trivial))))))), ?_⟩
 refine WT.a0 ?_
 refine Tn (.bool (r60 == r65)) 21 rfl rfl rfl hb59 (PO.beql Tryz.underlying4 rfl rfl) rfl ?_
 refine Tp (.bool (r60 == r65)) rfl (PO.pickT rfl hb59 rfl) rfl ?_
 refine Tp (.bool (r60 == r65)) rfl (PO.move rfl) rfl ?_
 rcases Bool.eq_false_or_eq_true (r60 == r65) with hb70 | hb70
 have h := ite_t hb70 h
 refine Tn (a24_ a0 v0_2) 30 rfl rfl rfl hb70 (PO.loadBA (cs := (l24 a0 v0_2)) 1 ag24 sz24 hs24_2 rfl rfl) rfl ?_
 refine Tn (a24_ a0 v0_2) 30 rfl rfl rfl hb70 (PO.loadBA (cs := (l24 a0 v0_2)) 1 ag24 sz24 hs24_2 rfl rfl) rfl ?_
 obtain ⟨r71, hr72, h⟩ := bnd h
 refine WT.altOn 30 rfl rfl rfl hb70 (EO.call0 co13 (f_batch_Copy_ok a0 _ _ h0_2 r71 hr72) (args1 rfl)) rfl ?_ ?_
 rintro _ M73 _ hle74 ⟨_, ⟨vq75_2, cq75_2, rfl, rfl, hq75_2⟩, rfl⟩
 have h0_2 := h0_2.mono hle74
 have h1_2 := h1_2.mono hle74
 have hE := hE.mono hle74
 refine ⟨(StabL.st (StabA.on 30 rfl rfl rfl hb70 (PO.loadBA (cs := (l24 a0 v0_2)) 2 ag24 sz24 hs24_2 rfl rfl) rfl) (StabL.anc rfl (StabL.anc rfl (StabL.anc rfl (StabL.anc rfl (StabL.anc rfl (StabL.anc rfl (StabL.anc rfl (StabL.anc rfl (StabL.anc rfl (StabL.anc rfl (StabL.anc rfl trivial)))))))))))), ?_⟩
 refine WT.a1 ?_
 obtain ⟨r76, hr77, h⟩ := bnd h
 refine WT.altOn 30 rfl rfl rfl hb70 (EO.call1 co12 (Tri.lend hq75_2.excl fun w0_ H0_ hs0_ => (f_ref06_Same_ok r71 a0 _ _ _ (hq75_2.rs hs0_) (h0_2.mono (IM.le_add _ _)) r76 hr77)) (args2 rfl rfl)) rfl ?_ ?_
 rintro _ _ _ hle79 ⟨_, ⟨Ml81, Hl82, hll83, rfl, rfl, ⟨rfl, rfl⟩⟩, rfl⟩
 have h0_2 := h0_2.mono hle79
 have h1_2 := h1_2.mono hle79
 have hq75_2 := hq75_2.mono hle79
 have hE := hE.mono hle79
 refine ⟨(StabL.anc rfl (StabL.anc rfl (StabL.anc rfl (StabL.anc rfl (StabL.anc rfl (StabL.anc rfl (StabL.anc rfl (StabL.anc rfl (StabL.anc rfl (StabL.anc rfl (StabL.anc rfl (StabL.anc rfl trivial)))))))))))), ?_⟩
 refine WT.a1 ?_
 refine Tp (.bool r76) rfl (PO.pickT rfl hb70 rfl) rfl ?_
 refine Tp (.bool r76) rfl (PO.move rfl) rfl ?_
 rcases Bool.eq_false_or_eq_true (r76) with hb84 | hb84
 have h := ite_t hb84 h
 refine Tn (pt g21 0) 36 rfl rfl rfl hb84 (PO.fieldAddr fo24_0 hs24_2 rfl) rfl ?_
 refine Tn (.int .i64 a0.Term) 36 rfl rfl rfl hb84 (PO.loadB 2 pl3 rfl rfl rfl) rfl ?_
 refine Tn (pt g21 1) 36 rfl rfl rfl hb84 (PO.fieldAddr fo24_1 hs24_2 rfl) rfl ?_
 refine Tn (.int .i64 a0.Base) 36 rfl rfl rfl hb84 (PO.loadB 2 pl3 rfl rfl rfl) rfl ?_
 refine Tn (pt g21 2) 36 rfl rfl rfl hb84 (PO.fieldAddr fo24_2 hs24_2 rfl) rfl ?_
 refine Tn v0_2 36 rfl rfl rfl hb84 (PO.loadB 2 pl22 rfl rfl rfl) rfl ?_
 refine Tn (a24_ a0 v0_2) 36 rfl rfl rfl hb84 (PO.loadBA (cs := (l24 a0 v0_2)) 2 ag24 sz24 hs24_2 rfl rfl) rfl ?_
 obtain ⟨r85, hr86, h⟩ := bnd h
 refine WT.altOn 36 rfl rfl rfl hb84 (EO.call0 co14 (f_batch_Of_ok a0.Term a0.Base a0.Records _ _ h0_2 r85 hr86) (args3 rfl rfl rfl)) rfl ?_ ?_
 rintro _ M87 _ hle88 ⟨_, ⟨vq89_2, cq89_2, rfl, rfl, hq89_2⟩, rfl⟩
 have h0_2 := h0_2.mono hle88
 have h1_2 := h1_2.mono hle88
 have hq75_2 := hq75_2.mono hle88
 have hE := hE.mono hle88
 refine ⟨(StabL.st (StabA.on 36 rfl rfl rfl hb84 (PO.loadBA (cs := (l24 a0 v0_2)) 3 ag24 sz24 hs24_2 rfl rfl) rfl) (StabL.anc rfl (StabL.anc rfl (StabL.anc rfl (StabL.anc rfl (StabL.anc rfl (StabL.anc rfl (StabL.anc rfl (StabL.anc rfl (StabL.anc rfl (StabL.anc rfl (StabL.anc rfl (StabL.anc rfl (StabL.anc rfl (StabL.anc rfl (StabL.anc rfl (StabL.anc rfl (StabL.anc rfl (StabL.anc rfl (StabL.anc rfl (StabL.anc rfl trivial))))))))))))))))))))), ?_⟩
 refine WT.a1 ?_
 obtain ⟨r90, hr91, h⟩ := bnd h
 refine WT.altOn 36 rfl rfl rfl hb84 (EO.call1 co12 (Tri.lend hq89_2.excl fun w0_ H0_ hs0_ => (f_ref06_Same_ok r85 a0 _ _ _ (hq89_2.rs hs0_) (h0_2.mono (IM.le_add _ _)) r90 hr91)) (args2 rfl rfl)) rfl ?_ ?_
 rintro _ _ _ hle93 ⟨_, ⟨Ml95, Hl96, hll97, rfl, rfl, ⟨rfl, rfl⟩⟩, rfl⟩
 have h0_2 := h0_2.mono hle93
 have h1_2 := h1_2.mono hle93
 have hq75_2 := hq75_2.mono hle93
 have hq89_2 := hq89_2.mono hle93
 have hE := hE.mono hle93
 refine ⟨(StabL.anc rfl (StabL.anc rfl (StabL.anc rfl (StabL.anc rfl (StabL.anc rfl (StabL.anc rfl (StabL.anc rfl (StabL.anc rfl (StabL.anc rfl (StabL.anc rfl (StabL.anc rfl (StabL.anc rfl (StabL.anc rfl (StabL.anc rfl (StabL.anc rfl (StabL.anc rfl (StabL.anc rfl (StabL.anc rfl (StabL.anc rfl (StabL.anc rfl (StabL.anc rfl trivial))))))))))))))))))))), ?_⟩
 refine WT.a1 ?_
 refine Tp (.bool r90) rfl (PO.pickT rfl hb84 rfl) rfl ?_
 refine Tp (.bool r90) rfl (PO.move rfl) rfl ?_
 rcases Bool.eq_false_or_eq_true (r90) with hb98 | hb98
 have h := ite_t hb98 h
 obtain ⟨r99, hr100, h⟩ := bnd h
 refine WT.altOn 47 rfl rfl rfl hb98 (EO.call0 co7 (f_law06_works_ok _ hE r99 hr100) (args0)) rfl ?_ ?_
 rintro _ M101 _ hle102 ⟨_, ⟨rfl, rfl⟩, rfl⟩
 have h0_2 := h0_2.mono hle102
 have h1_2 := h1_2.mono hle102
 have hq75_2 := hq75_2.mono hle102
 have hq89_2 := hq89_2.mono hle102
 have hE := hE.mono hle102
 refine ⟨(StabL.anc rfl (StabL.anc rfl (StabL.anc rfl (StabL.anc rfl (StabL.anc rfl (StabL.anc rfl (StabL.anc rfl (StabL.anc rfl (StabL.anc rfl (StabL.anc rfl (StabL.anc rfl (StabL.anc rfl (StabL.anc rfl (StabL.anc rfl (StabL.anc rfl (StabL.anc rfl (StabL.anc rfl (StabL.anc rfl (StabL.anc rfl (StabL.anc rfl (StabL.anc rfl (StabL.anc rfl (StabL.anc rfl trivial))))))))))))))))))))))), ?_⟩
 refine WT.a0 ?_
 refine Tp (.bool r99) rfl (PO.pickT rfl hb98 rfl) rfl ?_
 refine Tp (.bool r99) rfl (PO.assign rfl) rfl ?_
 refine WT.fin ?_
 refine WQ.drop ?_
 refine WQ.drop ?_
 obtain rfl := Option.some.inj h
 refine WQ.thenJ ?_
 exact ⟨(((((((((hle47.trans hle52).trans hle57).trans hle63).trans hle68).trans hle74).trans hle79).trans hle88).trans hle93).trans hle102), rfl, rfl⟩
 exact WT.no
 have h := ite_f hb98 h
 refine WT.altOff 47 rfl rfl rfl hb98 rfl ⟨(StabL.anc rfl (StabL.anc rfl (StabL.anc rfl (StabL.anc rfl (StabL.anc rfl (StabL.anc rfl (StabL.anc rfl (StabL.anc rfl (StabL.anc rfl (StabL.anc rfl (StabL.anc rfl (StabL.anc rfl (StabL.anc rfl (StabL.anc rfl (StabL.anc rfl (StabL.anc rfl (StabL.anc rfl (StabL.anc rfl (StabL.anc rfl (StabL.anc rfl (StabL.anc rfl (StabL.anc rfl (StabL.anc rfl trivial))))))))))))))))))))))), ?_⟩ ?_
 refine Tp (.bool false) rfl (PO.pickF rfl hb98 rfl) rfl ?_
 refine Tp (.bool false) rfl (PO.assign rfl) rfl ?_
 refine WT.fin ?_
 refine WQ.drop ?_
 refine WQ.drop ?_
 obtain rfl := Option.some.inj h
 refine WQ.thenJ ?_
 exact ⟨((((((((hle47.trans hle52).trans hle57).trans hle63).trans hle68).trans hle74).trans hle79).trans hle88).trans hle93), rfl, rfl⟩
 exact WT.no
 exact WT.no
 exact WT.no
 have h := ite_f hb84 h
 refine WT.pureOff 36 rfl rfl rfl hb84 rfl ?_
 refine WT.pureOff 36 rfl rfl rfl hb84 rfl ?_
 refine WT.pureOff 36 rfl rfl rfl hb84 rfl ?_
 refine WT.pureOff 36 rfl rfl rfl hb84 rfl ?_
 refine WT.pureOff 36 rfl rfl rfl hb84 rfl ?_
 refine WT.pureOff 36 rfl rfl rfl hb84 rfl ?_
 refine WT.pureOff 36 rfl rfl rfl hb84 rfl ?_
 refine WT.altOff 36 rfl rfl rfl hb84 rfl ⟨(StabL.st (StabA.off 36 rfl rfl rfl hb84 rfl) (StabL.anc rfl (StabL.anc rfl (StabL.anc rfl (StabL.anc rfl (StabL.anc rfl (StabL.anc rfl (StabL.anc rfl (StabL.anc rfl (StabL.anc rfl (StabL.anc rfl (StabL.anc rfl (StabL.anc rfl (StabL.anc rfl (StabL.anc rfl (StabL.anc rfl (StabL.anc rfl (StabL.anc rfl (StabL.anc rfl (StabL.anc rfl (StabL.anc rfl trivial))))))))))))))))))))), ?_⟩ ?_
 refine WT.altOff 36 rfl rfl rfl hb84 rfl ⟨(StabL.anc rfl (StabL.anc rfl (StabL.anc rfl (StabL.anc rfl (StabL.anc rfl (StabL.anc rfl (StabL.anc rfl (StabL.anc rfl (StabL.anc rfl (StabL.anc rfl (StabL.anc rfl (StabL.anc rfl (StabL.anc rfl (StabL.anc rfl (StabL.anc rfl (StabL.anc rfl (StabL.anc rfl (StabL.anc rfl (StabL.anc rfl (StabL.anc rfl (StabL.anc rfl trivial))))))))))))))))))))), ?_⟩ ?_
 refine Tp (.bool false) rfl (PO.pickF rfl hb84 rfl) rfl ?_
 refine Tp (.bool false) rfl (PO.move rfl) rfl ?_
 refine WT.altOff 47 rfl rfl rfl rfl rfl ⟨(StabL.anc rfl (StabL.anc rfl (StabL.anc rfl (StabL.anc rfl (StabL.anc rfl (StabL.anc rfl (StabL.anc rfl (StabL.anc rfl (StabL.anc rfl (StabL.anc rfl (StabL.anc rfl (StabL.anc rfl (StabL.anc rfl (StabL.anc rfl (StabL.anc rfl (StabL.anc rfl (StabL.anc rfl (StabL.anc rfl (StabL.anc rfl (StabL.anc rfl (StabL.anc rfl (StabL.anc rfl (StabL.anc rfl trivial))))))))))))))))))))))), ?_⟩ ?_
 refine Tp (.bool false) rfl (PO.pickF rfl rfl rfl) rfl ?_
 refine Tp (.bool false) rfl (PO.assign rfl) rfl ?_
 refine WT.fin ?_
 refine WQ.drop ?_
 obtain rfl := Option.some.inj h
 refine WQ.thenJ ?_
 exact ⟨((((((hle47.trans hle52).trans hle57).trans hle63).trans hle68).trans hle74).trans hle79), rfl, rfl⟩
 exact WT.no
 exact WT.no
 exact WT.no
 exact WT.no
 exact WT.no
 have h := ite_f hb70 h
 refine WT.pureOff 30 rfl rfl rfl hb70 rfl ?_
 refine WT.pureOff 30 rfl rfl rfl hb70 rfl ?_
 refine WT.altOff 30 rfl rfl rfl hb70 rfl ⟨(StabL.st (StabA.off 30 rfl rfl rfl hb70 rfl) (StabL.anc rfl (StabL.anc rfl (StabL.anc rfl (StabL.anc rfl (StabL.anc rfl (StabL.anc rfl (StabL.anc rfl (StabL.anc rfl (StabL.anc rfl (StabL.anc rfl (StabL.anc rfl trivial)))))))))))), ?_⟩ ?_
 refine WT.altOff 30 rfl rfl rfl hb70 rfl ⟨(StabL.anc rfl (StabL.anc rfl (StabL.anc rfl (StabL.anc rfl (StabL.anc rfl (StabL.anc rfl (StabL.anc rfl (StabL.anc rfl (StabL.anc rfl (StabL.anc rfl (StabL.anc rfl (StabL.anc rfl trivial)))))))))))), ?_⟩ ?_
 refine Tp (.bool false) rfl (PO.pickF rfl hb70 rfl) rfl ?_
 refine Tp (.bool false) rfl (PO.move rfl) rfl ?_
 refine WT.pureOff 36 rfl rfl rfl rfl rfl ?_
 refine WT.pureOff 36 rfl rfl rfl rfl rfl ?_
 refine WT.pureOff 36 rfl rfl rfl rfl rfl ?_
 refine WT.pureOff 36 rfl rfl rfl rfl rfl ?_
 refine WT.pureOff 36 rfl rfl rfl rfl rfl ?_
 refine WT.pureOff 36 rfl rfl rfl rfl rfl ?_
 refine WT.pureOff 36 rfl rfl rfl rfl rfl ?_
 refine WT.altOff 36 rfl rfl rfl rfl rfl ⟨(StabL.st (StabA.off 36 rfl rfl rfl rfl rfl) (StabL.anc rfl (StabL.anc rfl (StabL.anc rfl (StabL.anc rfl (StabL.anc rfl (StabL.anc rfl (StabL.anc rfl (StabL.anc rfl (StabL.anc rfl (StabL.anc rfl (StabL.anc rfl (StabL.anc rfl (StabL.anc rfl (StabL.anc rfl (StabL.anc rfl (StabL.anc rfl (StabL.anc rfl (StabL.anc rfl (StabL.anc rfl (StabL.anc rfl trivial))))))))))))))))))))), ?_⟩ ?_
 refine WT.altOff 36 rfl rfl rfl rfl rfl ⟨(StabL.anc rfl (StabL.anc rfl (StabL.anc rfl (StabL.anc rfl (StabL.anc rfl (StabL.anc rfl (StabL.anc rfl (StabL.anc rfl (StabL.anc rfl (StabL.anc rfl (StabL.anc rfl (StabL.anc rfl (StabL.anc rfl (StabL.anc rfl (StabL.anc rfl (StabL.anc rfl (StabL.anc rfl (StabL.anc rfl (StabL.anc rfl (StabL.anc rfl (StabL.anc rfl trivial))))))))))))))))))))), ?_⟩ ?_
 refine Tp (.bool false) rfl (PO.pickF rfl rfl rfl) rfl ?_
 refine Tp (.bool false) rfl (PO.move rfl) rfl ?_
 refine WT.altOff 47 rfl rfl rfl rfl rfl ⟨(StabL.anc rfl (StabL.anc rfl (StabL.anc rfl (StabL.anc rfl (StabL.anc rfl (StabL.anc rfl (StabL.anc rfl (StabL.anc rfl (StabL.anc rfl (StabL.anc rfl (StabL.anc rfl (StabL.anc rfl (StabL.anc rfl (StabL.anc rfl (StabL.anc rfl (StabL.anc rfl (StabL.anc rfl (StabL.anc rfl (StabL.anc rfl (StabL.anc rfl (StabL.anc rfl (StabL.anc rfl (StabL.anc rfl trivial))))))))))))))))))))))), ?_⟩ ?_
 refine Tp (.bool false) rfl (PO.pickF rfl rfl rfl) rfl ?_
 refine Tp (.bool false) rfl (PO.assign rfl) rfl ?_
 refine WT.fin ?_
 obtain rfl := Option.some.inj h
 refine WQ.thenJ ?_
 exact ⟨((((hle47.trans hle52).trans hle57).trans hle63).trans hle68), rfl, rfl⟩
 exact WT.no
 exact WT.no
 exact WT.no
 exact WT.no
 exact WT.no
 exact WT.no
 exact WT.no
 have h := ite_f hb59 h
 refine WT.pureOff 21 rfl rfl rfl hb59 rfl ?_
 refine WT.pureOff 21 rfl rfl rfl hb59 rfl ?_
 refine WT.pureOff 21 rfl rfl rfl hb59 rfl ?_
 refine WT.pureOff 21 rfl rfl rfl hb59 rfl ?_
 refine WT.altOff 21 rfl rfl rfl hb59 rfl ⟨(StabL.st (StabA.off 21 rfl rfl rfl hb59 rfl) (StabL.st (StabA.off 21 rfl rfl rfl hb59 rfl) (StabL.anc rfl (StabL.anc rfl (StabL.anc rfl (StabL.anc rfl (StabL.anc rfl trivial))))))), ?_⟩ ?_
 refine WT.altOff 21 rfl rfl rfl hb59 rfl ⟨(StabL.anc rfl (StabL.anc rfl (StabL.anc rfl (StabL.anc rfl (StabL.anc rfl (StabL.anc rfl (StabL.anc rfl trivial))))))), ?_⟩ ?_
 refine WT.pureOff 21 rfl rfl rfl hb59 rfl ?_
 refine Tp (.bool false) rfl (PO.pickF rfl hb59 rfl) rfl ?_
 refine Tp (.bool false) rfl (PO.move rfl) rfl ?_
 refine WT.pureOff 30 rfl rfl rfl rfl rfl ?_
 refine WT.pureOff 30 rfl rfl rfl rfl rfl ?_
 refine WT.altOff 30 rfl rfl rfl rfl rfl ⟨(StabL.st (StabA.off 30 rfl rfl rfl rfl rfl) (StabL.anc rfl (StabL.anc rfl (StabL.anc rfl (StabL.anc rfl (StabL.anc rfl (StabL.anc rfl (StabL.anc rfl (StabL.anc rfl (StabL.anc rfl (StabL.anc rfl (StabL.anc rfl trivial)))))))))))), ?_⟩ ?_
 refine WT.altOff 30 rfl rfl rfl rfl rfl ⟨(StabL.anc rfl (StabL.anc rfl (StabL.anc rfl (StabL.anc rfl (StabL.anc rfl (StabL.anc rfl (StabL.anc rfl (StabL.anc rfl (StabL.anc rfl (StabL.anc rfl (StabL.anc rfl (StabL.anc rfl trivial)))))))))))), ?_⟩ ?_
 refine Tp (.bool false) rfl (PO.pickF rfl rfl rfl) rfl ?_
 refine Tp (.bool false) rfl (PO.move rfl) rfl ?_
 refine WT.pureOff 36 rfl rfl rfl rfl rfl ?_
 refine WT.pureOff 36 rfl rfl rfl rfl rfl ?_
 refine WT.pureOff 36 rfl rfl rfl rfl rfl ?_
 refine WT.pureOff 36 rfl rfl rfl rfl rfl ?_
 refine WT.pureOff 36 rfl rfl rfl rfl rfl ?_
 refine WT.pureOff 36 rfl rfl rfl rfl rfl ?_
 refine WT.pureOff 36 rfl rfl rfl rfl rfl ?_
 refine WT.altOff 36 rfl rfl rfl rfl rfl ⟨(StabL.st (StabA.off 36 rfl rfl rfl rfl rfl) (StabL.anc rfl (StabL.anc rfl (StabL.anc rfl (StabL.anc rfl (StabL.anc rfl (StabL.anc rfl (StabL.anc rfl (StabL.anc rfl (StabL.anc rfl (StabL.anc rfl (StabL.anc rfl (StabL.anc rfl (StabL.anc rfl (StabL.anc rfl (StabL.anc rfl (StabL.anc rfl (StabL.anc rfl (StabL.anc rfl (StabL.anc rfl (StabL.anc rfl trivial))))))))))))))))))))), ?_⟩ ?_
 refine WT.altOff 36 rfl rfl rfl rfl rfl ⟨(StabL.anc rfl (StabL.anc rfl (StabL.anc rfl (StabL.anc rfl (StabL.anc rfl (StabL.anc rfl (StabL.anc rfl (StabL.anc rfl (StabL.anc rfl (StabL.anc rfl (StabL.anc rfl (StabL.anc rfl (StabL.anc rfl (StabL.anc rfl (StabL.anc rfl (StabL.anc rfl (StabL.anc rfl (StabL.anc rfl (StabL.anc rfl (StabL.anc rfl (StabL.anc rfl trivial))))))))))))))))))))), ?_⟩ ?_
 refine Tp (.bool false) rfl (PO.pickF rfl rfl rfl) rfl ?_
 refine Tp (.bool false) rfl (PO.move rfl) rfl ?_
 refine WT.altOff 47 rfl rfl rfl rfl rfl ⟨(StabL.anc rfl (StabL.anc rfl (StabL.anc rfl (StabL.anc rfl (StabL.anc rfl (StabL.anc rfl (StabL.anc rfl (StabL.anc rfl (StabL.anc rfl (StabL.anc rfl (StabL.anc rfl (StabL.anc rfl (StabL.anc rfl (StabL.anc rfl (StabL.anc rfl (StabL.anc rfl (StabL.anc rfl (StabL.anc rfl (StabL.anc rfl (StabL.anc rfl (StabL.anc rfl (StabL.anc rfl (StabL.anc rfl trivial))))))))))))))))))))))), ?_⟩ ?_
 refine Tp (.bool false) rfl (PO.pickF rfl rfl rfl) rfl ?_
 refine Tp (.bool false) rfl (PO.assign rfl) rfl ?_
 refine WT.fin ?_
 obtain rfl := Option.some.inj h
 refine WQ.thenJ ?_
 exact ⟨((hle47.trans hle52).trans hle57), rfl, rfl⟩
 exact WT.no
 exact WT.no
 exact WT.no
 exact WT.no
 exact WT.no
 exact WT.no
 exact WT.no
 exact WT.no
 exact WT.no
 exact WT.no
 rintro ρ43 M43 H43 ⟨hle43, rfl, hs43_4⟩
 have h1_2 := h1_2.mono hle43
 have h0_2 := h0_2.mono hle43
 have hE := hE.mono hle43
 refine WC.ret ?_
 refine WQ.drop ?_
 refine WQ.drop ?_
 exact WQ.returnsF h [] rfl (results1 rfl hs43_4) (hle24.trans hle43) ⟨rfl, rfl⟩


end Go.Proofs.YtjiffdgidodebaaGreatDoor.G
