/- Go functions: what they come to, and that they do. Printed by a program of the session (gen). -/
import Derived.Test.YtkflneabcannnaaGreatDoorCF
import Derived.Test.YtkflneabcannnaaGreatDoorKConv
import Derived.Test.YtkflneabcannnaaGreatDoorKShar2
import Derived.Test.YtkflneabcannnaaGreatDoorKTight2
set_option linter.unusedVariables false
set_option linter.unusedSimpArgs false
set_option maxHeartbeats 8000000
set_option maxRecDepth 100000
namespace Go.Proofs.YtkflneabcannnaaGreatDoor.G
open Go Go.KK

noncomputable def f_ref05_Short (a0 : T_api_Record) : Option Bool :=
  (((if (decide ((a0.Name.size : Int) ≤ (400 : Int))) = true then (if (decide ((a0.Key.size : Int) ≤ (400 : Int))) = true then (if (decide ((a0.Value.size : Int) ≤ (400 : Int))) = true then (some (decide ((a0.Rack.size : Int) ≤ (400 : Int)))) else (some false)) else (some false)) else (some false)) : Option Bool).bind fun x22 => (((if x22 = true then (if (decide ((a0.Ids.length : Int) ≤ (60 : Int))) = true then (if (decide ((a0.Isr.length : Int) ≤ (60 : Int))) = true then (if (decide ((a0.Add.length : Int) ≤ (60 : Int))) = true then (some (decide ((a0.Drop.length : Int) ≤ (60 : Int)))) else (some false)) else (some false)) else (some false)) else (some false)) : Option Bool).bind fun x27 => (some x27)))
def f_ref05_Short_post (a0 : T_api_Record) (v0_14 v0_15 v0_16 v0_17 : Value) : Bool → Value → IM → HL → Prop :=
  fun (r0 : Bool) (v : Value) (M' : IM) (H' : HL) => (.bool r0) = v ∧ H' = []
theorem f_ref05_Short_ok (a0 : T_api_Record) (M : IM) (v0_14 v0_15 v0_16 v0_17 : Value) (h0_14 : RS (Kd.int .i64) M v0_14 a0.Ids) (h0_15 : RS (Kd.int .i64) M v0_15 a0.Isr) (h0_16 : RS (Kd.int .i64) M v0_16 a0.Add) (h0_17 : RS (Kd.int .i64) M v0_17 a0.Drop) (res : Bool) (h : f_ref05_Short a0 = some res) :
    Tri Tryz.prog 64 #[(a58_ a0 v0_14 v0_15 v0_16 v0_17)] M [] (f_ref05_Short_post a0 v0_14 v0_15 v0_16 v0_17 res) := by
 unfold f_ref05_Short at h
 refine Te Tryz.func64 rfl rfl ?_
 intro F ρ hρ
 refine Sr (We (EO.box (cs := (l58 a0 v0_14 v0_15 v0_16 v0_17).toArray) (congrArg Value.cells (asE (a58_ a0 v0_14 v0_15 v0_16 v0_17) (hρ 0)))) rfl ?_)
 rintro _ _ _ - ⟨rfl, g21, rfl, rfl⟩
 refine qa (Bv false) (Nt ?_)
 obtain ⟨x22, hj23, h⟩ := bnd h
 refine Jf (fun (x22 : Bool) ρ' M' H' => M.le M' ∧ [(g21, .cells (l58 a0 v0_14 v0_15 v0_16 v0_17).toArray 58 (0, 0))] :: F = H' ∧ ρ' 1 = (pt g21 0) ∧ ρ' 3 = (Bv x22)) x22 ?_ ?_
 have h := hj23
 refine Cg (qu (pt g21 10) (Fa fo58_10 rfl rfl) (qu (Sv a0.Name) (Lb 0 pl9 rfl rfl rfl) (qu (Iv (a0.Name.size : Int)) (PO.lenStr Tryz.underlying9 rfl) (qu (Bv (decide ((a0.Name.size : Int) ≤ (400 : Int)))) (PO.leq rfl rfl) (qm (Bv (decide ((a0.Name.size : Int) ≤ (400 : Int)))) ?_)))))
 rcases Bt (decide ((a0.Name.size : Int) ≤ (400 : Int))) with hb24 | hb24
 have h := ite_t hb24 h
 refine qo 8 hb24 (pt g21 11) (Fa fo58_11 rfl rfl) (qo 8 hb24 (Sv a0.Key) (Lb 0 pl9 rfl rfl rfl) (qo 8 hb24 (Iv (a0.Key.size : Int)) (PO.lenStr Tryz.underlying9 rfl) (qo 8 hb24 (Bv (decide ((a0.Key.size : Int) ≤ (400 : Int)))) (PO.leq rfl rfl) (qu (Bv (decide ((a0.Key.size : Int) ≤ (400 : Int)))) (Pt rfl hb24 rfl) (qm (Bv (decide ((a0.Key.size : Int) ≤ (400 : Int)))) ?_)))))
 rcases Bt (decide ((a0.Key.size : Int) ≤ (400 : Int))) with hb25 | hb25
 have h := ite_t hb25 h
 refine qo 14 hb25 (pt g21 12) (Fa fo58_12 rfl rfl) (qo 14 hb25 (Sv a0.Value) (Lb 0 pl9 rfl rfl rfl) (qo 14 hb25 (Iv (a0.Value.size : Int)) (PO.lenStr Tryz.underlying9 rfl) (qo 14 hb25 (Bv (decide ((a0.Value.size : Int) ≤ (400 : Int)))) (PO.leq rfl rfl) (qu (Bv (decide ((a0.Value.size : Int) ≤ (400 : Int)))) (Pt rfl hb25 rfl) (qm (Bv (decide ((a0.Value.size : Int) ≤ (400 : Int)))) ?_)))))
 rcases Bt (decide ((a0.Value.size : Int) ≤ (400 : Int))) with hb26 | hb26
 have h := ite_t hb26 h
 refine qo 20 hb26 (pt g21 13) (Fa fo58_13 rfl rfl) (qo 20 hb26 (Sv a0.Rack) (Lb 0 pl9 rfl rfl rfl) (qo 20 hb26 (Iv (a0.Rack.size : Int)) (PO.lenStr Tryz.underlying9 rfl) (qo 20 hb26 (Bv (decide ((a0.Rack.size : Int) ≤ (400 : Int)))) (PO.leq rfl rfl) (qu (Bv (decide ((a0.Rack.size : Int) ≤ (400 : Int)))) (Pt rfl hb26 rfl) (qa (Bv (decide ((a0.Rack.size : Int) ≤ (400 : Int)))) (Wz ?_))))))
 obtain rfl := oi h
 exact Tj ⟨lr, rfl, rfl, rfl⟩
 have h := ite_f hb26 h
 iterate 4 refine Of 20 rfl rfl hb26 rfl ?_
 refine qu (Bv false) (Pf rfl hb26 rfl) (qa (Bv false) (Wz ?_))
 obtain rfl := oi h
 exact Tj ⟨lr, rfl, rfl, rfl⟩
 have h := ite_f hb25 h
 iterate 4 refine Of 14 rfl rfl hb25 rfl ?_
 refine qu (Bv false) (Pf rfl hb25 rfl) (qm (Bv false) ?_)
 iterate 4 refine Of 20 rfl rfl rfl rfl ?_
 refine qu (Bv false) (Pf rfl rfl rfl) (qa (Bv false) (Wz ?_))
 obtain rfl := oi h
 exact Tj ⟨lr, rfl, rfl, rfl⟩
 have h := ite_f hb24 h
 iterate 4 refine Of 8 rfl rfl hb24 rfl ?_
 refine qu (Bv false) (Pf rfl hb24 rfl) (qm (Bv false) ?_)
 iterate 4 refine Of 14 rfl rfl rfl rfl ?_
 refine qu (Bv false) (Pf rfl rfl rfl) (qm (Bv false) ?_)
 iterate 4 refine Of 20 rfl rfl rfl rfl ?_
 refine qu (Bv false) (Pf rfl rfl rfl) (qa (Bv false) (Wz ?_))
 obtain rfl := oi h
 exact Tj ⟨lr, rfl, rfl, rfl⟩
 rintro ρ23 M23 H23 ⟨hle23, rfl, hs23_1, hs23_3⟩
 obtain ⟨x27, hj28, h⟩ := bnd h
 refine Jf (fun (x27 : Bool) ρ' M' H' => M23.le M' ∧ [(g21, .cells (l58 a0 v0_14 v0_15 v0_16 v0_17).toArray 58 (0, 0))] :: F = H' ∧ ρ' 2 = (Bv x27)) x27 ?_ ?_
 have h := hj28
 refine Cg (qM (Bv x22) hs23_3 (qm (Bv x22) ?_))
 rcases Bt (x22) with hb29 | hb29
 have h := ite_t hb29 h
 refine qo 27 hb29 (pt g21 14) (Fa fo58_14 hs23_1 rfl) (qo 27 hb29 v0_14 (Lb 0 pl56 rfl rfl rfl) (On 27 rfl rfl hb29 ?_))
 have h0_14 := h0_14.mono hle23
 refine qu (Iv (a0.Ids.length : Int)) (PO.lenS Tryz.underlying56 rfl h0_14.len) (qo 27 hb29 (Bv (decide ((a0.Ids.length : Int) ≤ (60 : Int)))) (PO.leq rfl rfl) (qu (Bv (decide ((a0.Ids.length : Int) ≤ (60 : Int)))) (Pt rfl hb29 rfl) (qm (Bv (decide ((a0.Ids.length : Int) ≤ (60 : Int)))) ?_)))
 rcases Bt (decide ((a0.Ids.length : Int) ≤ (60 : Int))) with hb30 | hb30
 have h := ite_t hb30 h
 refine qo 33 hb30 (pt g21 15) (Fa fo58_15 hs23_1 rfl) (qo 33 hb30 v0_15 (Lb 0 pl56 rfl rfl rfl) (On 33 rfl rfl hb30 ?_))
 have h0_15 := h0_15.mono hle23
 refine qu (Iv (a0.Isr.length : Int)) (PO.lenS Tryz.underlying56 rfl h0_15.len) (qo 33 hb30 (Bv (decide ((a0.Isr.length : Int) ≤ (60 : Int)))) (PO.leq rfl rfl) (qu (Bv (decide ((a0.Isr.length : Int) ≤ (60 : Int)))) (Pt rfl hb30 rfl) (qm (Bv (decide ((a0.Isr.length : Int) ≤ (60 : Int)))) ?_)))
 rcases Bt (decide ((a0.Isr.length : Int) ≤ (60 : Int))) with hb31 | hb31
 have h := ite_t hb31 h
 refine qo 39 hb31 (pt g21 16) (Fa fo58_16 hs23_1 rfl) (qo 39 hb31 v0_16 (Lb 0 pl56 rfl rfl rfl) (On 39 rfl rfl hb31 ?_))
 have h0_16 := h0_16.mono hle23
 refine qu (Iv (a0.Add.length : Int)) (PO.lenS Tryz.underlying56 rfl h0_16.len) (qo 39 hb31 (Bv (decide ((a0.Add.length : Int) ≤ (60 : Int)))) (PO.leq rfl rfl) (qu (Bv (decide ((a0.Add.length : Int) ≤ (60 : Int)))) (Pt rfl hb31 rfl) (qm (Bv (decide ((a0.Add.length : Int) ≤ (60 : Int)))) ?_)))
 rcases Bt (decide ((a0.Add.length : Int) ≤ (60 : Int))) with hb32 | hb32
 have h := ite_t hb32 h
 refine qo 45 hb32 (pt g21 17) (Fa fo58_17 hs23_1 rfl) (qo 45 hb32 v0_17 (Lb 0 pl56 rfl rfl rfl) (On 45 rfl rfl hb32 ?_))
 have h0_17 := h0_17.mono hle23
 refine qu (Iv (a0.Drop.length : Int)) (PO.lenS Tryz.underlying56 rfl h0_17.len) (qo 45 hb32 (Bv (decide ((a0.Drop.length : Int) ≤ (60 : Int)))) (PO.leq rfl rfl) (qu (Bv (decide ((a0.Drop.length : Int) ≤ (60 : Int)))) (Pt rfl hb32 rfl) (qa (Bv (decide ((a0.Drop.length : Int) ≤ (60 : Int)))) (Wz ?_))))
 obtain rfl := oi h
 exact Tj ⟨lr, rfl, rfl⟩
 have h := ite_f hb32 h
 iterate 4 refine Of 45 rfl rfl hb32 rfl ?_
 refine qu (Bv false) (Pf rfl hb32 rfl) (qa (Bv false) (Wz ?_))
 obtain rfl := oi h
 exact Tj ⟨lr, rfl, rfl⟩
 have h := ite_f hb31 h
 iterate 4 refine Of 39 rfl rfl hb31 rfl ?_
 refine qu (Bv false) (Pf rfl hb31 rfl) (qm (Bv false) ?_)
 iterate 4 refine Of 45 rfl rfl rfl rfl ?_
 refine qu (Bv false) (Pf rfl rfl rfl) (qa (Bv false) (Wz ?_))
 obtain rfl := oi h
 exact Tj ⟨lr, rfl, rfl⟩
 have h := ite_f hb30 h
 iterate 4 refine Of 33 rfl rfl hb30 rfl ?_
 refine qu (Bv false) (Pf rfl hb30 rfl) (qm (Bv false) ?_)
 iterate 4 refine Of 39 rfl rfl rfl rfl ?_
 refine qu (Bv false) (Pf rfl rfl rfl) (qm (Bv false) ?_)
 iterate 4 refine Of 45 rfl rfl rfl rfl ?_
 refine qu (Bv false) (Pf rfl rfl rfl) (qa (Bv false) (Wz ?_))
 obtain rfl := oi h
 exact Tj ⟨lr, rfl, rfl⟩
 have h := ite_f hb29 h
 iterate 4 refine Of 27 rfl rfl hb29 rfl ?_
 refine qu (Bv false) (Pf rfl hb29 rfl) (qm (Bv false) ?_)
 iterate 4 refine Of 33 rfl rfl rfl rfl ?_
 refine qu (Bv false) (Pf rfl rfl rfl) (qm (Bv false) ?_)
 iterate 4 refine Of 39 rfl rfl rfl rfl ?_
 refine qu (Bv false) (Pf rfl rfl rfl) (qm (Bv false) ?_)
 iterate 4 refine Of 45 rfl rfl rfl rfl ?_
 refine qu (Bv false) (Pf rfl rfl rfl) (qa (Bv false) (Wz ?_))
 obtain rfl := oi h
 exact Tj ⟨lr, rfl, rfl⟩
 rintro ρ28 M28 H28 ⟨hle28, rfl, hs28_2⟩
 exact Cr (Dr (Rf h [] rfl (Rs rfl hs28_2) (hle23.trans hle28) ⟨rfl, rfl⟩))

noncomputable def f_ref06_Short_l0 (a0 : (List T_api_Record)) (s_ : Int) : Option (Int ⊕ (Unit ⊕ Unit)) :=
  match s_ with
  | x24 =>
    (if (decide (x24 < (a0.length : Int))) = true then (grd (0 ≤ x24 ∧ x24 < a0.length) ((f_ref05_Short (rd a0 x24)).bind fun r33 => (if (!r33) = true then (some (Sum.inr (Sum.inr ()))) else (some (Sum.inl (IntKind.i64.wrap (x24 + (1 : Int)))))))) else (some (Sum.inr (Sum.inl ()))))
noncomputable def f_ref06_Short (a0 : (List T_api_Record)) : Option Bool :=
  (if (decide ((80 : Int) < (a0.length : Int))) = true then (some false) else ((((iter (f_ref06_Short_l0 a0) (0 : Int)).bind (Sum.elim (fun _ => (some (Sum.inl ()))) (fun _ => (((some false)).bind fun r => some (Sum.inr r))))) : Option (Unit ⊕ Bool)).bind (Sum.elim (fun _ => (some true)) some)))
def f_ref06_Short_post (a0 : (List T_api_Record)) (v0 : Value) : Bool → Value → IM → HL → Prop :=
  fun (r0 : Bool) (v : Value) (M' : IM) (H' : HL) => (.bool r0) = v ∧ H' = []
theorem f_ref06_Short_ok (a0 : (List T_api_Record)) (M : IM) (v0 : Value) (h0 : RS kd_api_Record M v0 a0) (res : Bool) (h : f_ref06_Short a0 = some res) :
    Tri Tryz.prog 21 #[v0] M [] (f_ref06_Short_post a0 v0 res) := by
 unfold f_ref06_Short at h
 refine Te Tryz.func21 rfl rfl ?_
 intro F ρ hρ
 refine Sr (qa (Bv false) (Nt (Cs (Sr (qM v0 (hρ 0) (qu (Iv (a0.length : Int)) (PO.lenS Tryz.underlying53 rfl h0.len) (qu (Bv (decide ((80 : Int) < (a0.length : Int)))) (PO.gtr rfl rfl) (Nt (Cd (b := decide ((80 : Int) < (a0.length : Int))) rfl (fun hb21 => ?_) (fun hb21 => ?_))))))))))
 have h := ite_t hb21 h
 exact Sr (qa (Bv false) (Nt (Cr (Tr (Rf h [] rfl (Rs rfl rfl) lr ⟨rfl, rfl⟩)))))
 have h := ite_f hb21 h
 refine Ck (Tc ?_)
 obtain ⟨j22, hj22, h⟩ := bnd h
 refine WC.joinE (fun (_ : Unit) ρ' M' H' => M.le M' ∧ F = H') j22 ?_ ?_
 have h322 := h
 have h := hj22
 refine Sr (qa (Iv 0) (Nt (Bk ?_)))
 obtain ⟨e23, he23, hK23⟩ := bnd h
 clear h
 refine WC.loop he23 (fun (x24 : Int) ρ' M' H' => M.le M' ∧ F = H' ∧ ρ' 0 = v0 ∧ ρ' 3 = (Iv x24)) ?_ ?_
 exact ⟨lr, rfl, (hρ 0), rfl⟩
 rintro x24 o23 ρ23 M23 H23 h ⟨hle23, rfl, hs23_0, hs23_3⟩
 unfold f_ref06_Short_l0 at h
 refine Cs (Sr (qM (Iv x24) hs23_3 (qM v0 hs23_0 ?_)))
 have h0 := h0.mono hle23
 refine qu (Iv (a0.length : Int)) (PO.lenS Tryz.underlying53 rfl h0.len) (qu (Bv (decide (x24 < (a0.length : Int)))) (PO.lss rfl rfl) (Nt (Cd (b := decide (x24 < (a0.length : Int))) rfl (fun hb25 => ?_) (fun hb25 => ?_))))
 have h := ite_t hb25 h
 refine Ck (Tc (Cs (Bk (Sr (qM v0 hs23_0 (qM (Iv x24) hs23_3 ?_))))))
 obtain ⟨hg26, h⟩ := grd_i h
 obtain ⟨p27, cs28, hat29, hrc30, hhas31⟩ := h0.at hg26.1 hg26.2 (by decide)
 obtain ⟨vw32_14, vw32_15, vw32_16, vw32_17, rfl, hw32_14, hw32_15, hw32_16, hw32_17⟩ := kd_api_Record_open hrc30
 refine qu (.pointer (some p27)) (PO.indexAddr (n := a0.length) Tryz.underlying53 sz58 rfl rfl hg26.1 hg26.2 hat29) (qu (a58_ (rd a0 x24) vw32_14 vw32_15 vw32_16 vw32_17) (PO.loadMA (cs := (l58 (rd a0 x24) vw32_14 vw32_15 vw32_16 vw32_17)) ag58 sz58 rfl hhas31) ?_)
 obtain ⟨r33, hr34, h⟩ := bnd h
 refine We (Ca co64 (f_ref05_Short_ok (rd a0 x24) _ _ _ _ _ hw32_14 hw32_15 hw32_16 hw32_17 r33 hr34) (args1 rfl)) rfl ?_
 rintro _ M35 _ hle36 ⟨_, ⟨rfl, rfl⟩, rfl⟩
 refine WL.a0 (qu (Bv (!r33)) (PO.not rfl) (Nt (Cd (b := !r33) rfl (fun hb38 => ?_) (fun hb38 => ?_))))
 have h := ite_t hb38 h
 refine Sr (qa (Bv false) (Nt (Cr (Br (Tr (WQ.leaveR (Sum.inr ()) (oi h).symm (fun heq23 => ?_)))))))
 subst heq23
 have h := (elimR hK23)
 refine Br (Tr ?_)
 have h := KK.early h h322
 exact Rf h [] rfl (Rs rfl rfl) (hle23.trans hle36) ⟨rfl, rfl⟩
 have h := ite_f hb38 h
 exact Ck (Bn (Tc (Cg (qM (Iv x24) hs23_3 (qu (Iv (IntKind.i64.wrap (x24 + 1))) (PO.add rfl rfl) (qa (Iv (IntKind.i64.wrap (x24 + 1))) (Wz (WQ.again (IntKind.i64.wrap (x24 + 1)) (oi h).symm ⟨(hle23.trans hle36), rfl, hs23_0, rfl⟩))))))))
 have h := ite_f hb25 h
 refine WC.exit (WQ.thenE (WQ.leaveE (Sum.inl ()) (oi h).symm (fun heq23 => ?_)))
 subst heq23
 have h := elimL hK23
 exact WQ.blockH (WQ.thenFE h ⟨hle23, rfl⟩)
 rintro _ ρ22 M22 H22 rfl ⟨hle22, rfl⟩
 have h := (Sum.elim_inl _ _ _).symm.trans h
 exact Sr (qa (Bv true) (Nt (Cr (Rf h [] rfl (Rs rfl rfl) hle22 ⟨rfl, rfl⟩))))

noncomputable def f_ref07_Short_l0 (a0 : T_api_Rpc) (s_ : Int) : Option (Int ⊕ (Unit ⊕ Unit)) :=
  match s_ with
  | x28 =>
    (if (decide (x28 < (a0.Batches.length : Int))) = true then (grd (0 ≤ x28 ∧ x28 < a0.Batches.length) ((f_ref06_Short ((rd a0.Batches x28).Records)).bind fun r37 => (if (!r37) = true then (some (Sum.inr (Sum.inr ()))) else (some (Sum.inl (IntKind.i64.wrap (x28 + (1 : Int)))))))) else (some (Sum.inr (Sum.inl ()))))
noncomputable def f_ref07_Short (a0 : T_api_Rpc) : Option Bool :=
  (((if (decide ((800 : Int) < (a0.Data.length : Int))) = true then (some true) else (some (decide ((12 : Int) < (a0.Batches.length : Int))))) : Option Bool).bind fun x22 => (if x22 = true then (some false) else ((((iter (f_ref07_Short_l0 a0) (0 : Int)).bind (Sum.elim (fun _ => (some (Sum.inl ()))) (fun _ => (((some false)).bind fun r => some (Sum.inr r))))) : Option (Unit ⊕ Bool)).bind (Sum.elim (fun _ => (some true)) some))))
def f_ref07_Short_post (a0 : T_api_Rpc) (v0_11 v0_14 : Value) : Bool → Value → IM → HL → Prop :=
  fun (r0 : Bool) (v : Value) (M' : IM) (H' : HL) => (.bool r0) = v ∧ H' = []
theorem f_ref07_Short_ok (a0 : T_api_Rpc) (M : IM) (v0_11 v0_14 : Value) (h0_11 : RS kd_api_Batch M v0_11 a0.Batches) (h0_14 : RS (Kd.int .u8) M v0_14 a0.Data) (res : Bool) (h : f_ref07_Short a0 = some res) :
    Tri Tryz.prog 8 #[(a25_ a0 v0_11 v0_14)] M [] (f_ref07_Short_post a0 v0_11 v0_14 res) := by
 unfold f_ref07_Short at h
 refine Te Tryz.func8 rfl rfl ?_
 intro F ρ hρ
 refine Sr (We (EO.box (cs := (l25 a0 v0_11 v0_14).toArray) (congrArg Value.cells (asE (a25_ a0 v0_11 v0_14) (hρ 0)))) rfl ?_)
 rintro _ _ _ - ⟨rfl, g21, rfl, rfl⟩
 refine qa (Bv false) (Nt (Cs ?_))
 obtain ⟨x22, hj23, h⟩ := bnd h
 refine Jf (fun (x22 : Bool) ρ' M' H' => M.le M' ∧ [(g21, .cells (l25 a0 v0_11 v0_14).toArray 25 (0, 0))] :: F = H' ∧ ρ' 1 = (pt g21 0) ∧ ρ' 13 = (Bv x22)) x22 ?_ ?_
 have h := hj23
 refine Cg (qu (pt g21 14) (Fa fo25_14 rfl rfl) (qu v0_14 (Lb 0 pl23 rfl rfl rfl) (qu (Iv (a0.Data.length : Int)) (PO.lenS Tryz.underlying23 rfl h0_14.len) (qu (Bv (decide ((800 : Int) < (a0.Data.length : Int)))) (PO.gtr rfl rfl) (qm (Bv (decide ((800 : Int) < (a0.Data.length : Int)))) ?_)))))
 rcases Bt (decide ((800 : Int) < (a0.Data.length : Int))) with hb24 | hb24
 have h := ite_t hb24 h
 iterate 4 refine Of 8 rfl rfl hb24 rfl ?_
 refine qu (Bv true) (Pt rfl hb24 rfl) (Wz ?_)
 obtain rfl := oi h
 exact Tj ⟨lr, rfl, rfl, rfl⟩
 have h := ite_f hb24 h
 refine qo 8 hb24 (pt g21 11) (Fa fo25_11 rfl rfl) (qo 8 hb24 v0_11 (Lb 0 pl22 rfl rfl rfl) (qo 8 hb24 (Iv (a0.Batches.length : Int)) (PO.lenS Tryz.underlying22 rfl h0_11.len) (qo 8 hb24 (Bv (decide ((12 : Int) < (a0.Batches.length : Int)))) (PO.gtr rfl rfl) (qu (Bv (decide ((12 : Int) < (a0.Batches.length : Int)))) (Pf rfl hb24 rfl) (Wz ?_)))))
 obtain rfl := oi h
 exact Tj ⟨lr, rfl, rfl, rfl⟩
 rintro ρ23 M23 H23 ⟨hle23, rfl, hs23_1, hs23_13⟩
 refine Cd (b := x22) hs23_13 (fun hb25 => ?_) (fun hb25 => ?_)
 have h := ite_t hb25 h
 exact Sr (qa (Bv false) (Nt (Cr (Tr (Dr (Rf h [] rfl (Rs rfl rfl) hle23 ⟨rfl, rfl⟩))))))
 have h := ite_f hb25 h
 refine Ck (Tc ?_)
 obtain ⟨j26, hj26, h⟩ := bnd h
 refine WC.joinE (fun (_ : Unit) ρ' M' H' => M23.le M' ∧ [(g21, .cells (l25 a0 v0_11 v0_14).toArray 25 (0, 0))] :: F = H') j26 ?_ ?_
 have h326 := h
 have h := hj26
 refine Sr (qa (Iv 0) (Nt (Bk ?_)))
 obtain ⟨e27, he27, hK27⟩ := bnd h
 clear h
 refine WC.loop he27 (fun (x28 : Int) ρ' M' H' => M23.le M' ∧ [(g21, .cells (l25 a0 v0_11 v0_14).toArray 25 (0, 0))] :: F = H' ∧ ρ' 1 = (pt g21 0) ∧ ρ' 3 = (Iv x28)) ?_ ?_
 exact ⟨lr, rfl, hs23_1, rfl⟩
 rintro x28 o27 ρ27 M27 H27 h ⟨hle27, rfl, hs27_1, hs27_3⟩
 unfold f_ref07_Short_l0 at h
 refine Cs (Sr (qM (Iv x28) hs27_3 (qu (pt g21 11) (Fa fo25_11 hs27_1 rfl) (qu v0_11 (Lb 0 pl22 rfl rfl rfl) ?_))))
 have h0_11 := h0_11.mono (hle23.trans hle27)
 refine qu (Iv (a0.Batches.length : Int)) (PO.lenS Tryz.underlying22 rfl h0_11.len) (qu (Bv (decide (x28 < (a0.Batches.length : Int)))) (PO.lss rfl rfl) (Nt (Cd (b := decide (x28 < (a0.Batches.length : Int))) rfl (fun hb29 => ?_) (fun hb29 => ?_))))
 have h := ite_t hb29 h
 refine Ck (Tc (Cs (Bk (Sr (qu (pt g21 11) (Fa fo25_11 hs27_1 rfl) (qu v0_11 (Lb 0 pl22 rfl rfl rfl) (qM (Iv x28) hs27_3 ?_)))))))
 obtain ⟨hg30, h⟩ := grd_i h
 obtain ⟨p31, cs32, hat33, hrc34, hhas35⟩ := h0_11.at hg30.1 hg30.2 (by decide)
 obtain ⟨vw36_2, rfl, hw36_2⟩ := kd_api_Batch_open hrc34
 refine qu (.pointer (some p31)) (PO.indexAddr (n := a0.Batches.length) Tryz.underlying22 sz55 rfl rfl hg30.1 hg30.2 hat33) (qu (.pointer (some (p31.add 2))) (Fa fo55_2 rfl rfl) (qu vw36_2 (PO.loadM pl53 rfl (hhas35 2 _ rfl)) ?_))
 obtain ⟨r37, hr38, h⟩ := bnd h
 refine We (Ca co21 (f_ref06_Short_ok ((rd a0.Batches x28).Records) _ _ hw36_2 r37 hr38) (args1 rfl)) rfl ?_
 rintro _ M39 _ hle40 ⟨_, ⟨rfl, rfl⟩, rfl⟩
 refine WL.a0 (qu (Bv (!r37)) (PO.not rfl) (Nt (Cd (b := !r37) rfl (fun hb42 => ?_) (fun hb42 => ?_))))
 have h := ite_t hb42 h
 refine Sr (qa (Bv false) (Nt (Cr (Br (Tr (WQ.leaveR (Sum.inr ()) (oi h).symm (fun heq27 => ?_)))))))
 subst heq27
 have h := (elimR hK27)
 refine Br (Tr ?_)
 have h := KK.early h h326
 exact Dr (Rf h [] rfl (Rs rfl rfl) ((hle23.trans hle27).trans hle40) ⟨rfl, rfl⟩)
 have h := ite_f hb42 h
 exact Ck (Bn (Tc (Cg (qM (Iv x28) hs27_3 (qu (Iv (IntKind.i64.wrap (x28 + 1))) (PO.add rfl rfl) (qa (Iv (IntKind.i64.wrap (x28 + 1))) (Wz (WQ.again (IntKind.i64.wrap (x28 + 1)) (oi h).symm ⟨(hle27.trans hle40), rfl, hs27_1, rfl⟩))))))))
 have h := ite_f hb29 h
 refine WC.exit (WQ.thenE (WQ.leaveE (Sum.inl ()) (oi h).symm (fun heq27 => ?_)))
 subst heq27
 have h := elimL hK27
 exact WQ.blockH (WQ.thenFE h ⟨hle27, rfl⟩)
 rintro _ ρ26 M26 H26 rfl ⟨hle26, rfl⟩
 have h := (Sum.elim_inl _ _ _).symm.trans h
 exact Sr (qa (Bv true) (Nt (Cr (Dr (Rf h [] rfl (Rs rfl rfl) (hle23.trans hle26) ⟨rfl, rfl⟩)))))

noncomputable def f_fault_New (a0 : ByteArray) (a1 : Int) (a2 : Int) : Option GErr :=
  (some (GErr.fault a0 a1 (GErr.code a2)))
def f_fault_New_post (a0 : ByteArray) (a1 : Int) (a2 : Int) : GErr → Value → IM → HL → Prop :=
  fun (r0 : GErr) (v : Value) (M' : IM) (H' : HL) => (GV r0) = v ∧ H' = []
theorem f_fault_New_ok (a0 : ByteArray) (a1 : Int) (a2 : Int) (M : IM) (res : GErr) (h : f_fault_New a0 a1 a2 = some res) :
    Tri Tryz.prog 30 #[(Sv a0), (Iv a1), (Iv a2)] M [] (f_fault_New_post a0 a1 a2 res) := by
 unfold f_fault_New at h
 refine Te Tryz.func30 rfl rfl ?_
 intro F ρ hρ
 refine Sr (qa (GV GErr.nil) (Ns (qM (Sv a0) (hρ 0) (qM (Iv a1) (hρ 1) (qM (Iv a2) (hρ 2) (qu (GV (GErr.code a2)) (PO.makeInterface cc38 rfl) (qu (.agg #[(Sv a0), (Iv a1), (GV (GErr.code a2))]) (Bl (cl := [(Sv a0), (Iv a1), (GV (GErr.code a2))]) ze108 fp108 (Pc (Sv a0) rfl rfl (Pc (Iv a1) rfl rfl (Parts.cons ((congrArg Value.cells (show ev _ _ = (GV (GErr.code a2)) from rfl)).trans (GErr.val_cells _ _ _ _)) Pz))) rfl) (qu (GV (GErr.fault a0 a1 (GErr.code a2))) (PO.makeInterface cc108 rfl) (qa (GV (GErr.fault a0 a1 (GErr.code a2))) (Nt (Cr ?_)))))))))))
 exact Rf h [] rfl (Rs rfl rfl) lr ⟨rfl, rfl⟩

noncomputable def f_rpc_about (a0 : Int) : Option Int :=
  (((((if (decide (a0 = (8 : Int))) = true then (some (Sum.inl (orI .i64 (0 : Int) (416 : Int)))) else (((if (decide (a0 = (5 : Int))) = true then (some (decide (a0 = (5 : Int)))) else (some (decide (a0 = (6 : Int))))) : Option Bool).bind fun x26 => (if x26 = true then (some (Sum.inl (0 : Int))) else (if (decide (a0 = (4 : Int))) = true then (((some (orI .i64 (0 : Int) (116 : Int)))).bind fun r => some (Sum.inr r)) else (if (decide (a0 = (2 : Int))) = true then (((some (orI .i64 (0 : Int) (7 : Int)))).bind fun r => some (Sum.inr r)) else (if (decide (a0 = (1 : Int))) = true then (((some (orI .i64 (0 : Int) (1 : Int)))).bind fun r => some (Sum.inr r)) else (((some (0 : Int))).bind fun r => some (Sum.inr r)))))))) : Option (Int ⊕ Int)).bind (Sum.elim (fun (x23 : Int) => (some (orI .i64 x23 (4 : Int)))) some)) : Option Int).bind fun x21 => (((((if (decide (a0 = (1 : Int))) = true then (some (decide (a0 = (1 : Int)))) else (if (decide (a0 = (3 : Int))) = true then (some (decide (a0 = (3 : Int)))) else (if (decide (a0 = (4 : Int))) = true then (some (decide (a0 = (4 : Int)))) else (if (decide (a0 = (7 : Int))) = true then (some (decide (a0 = (7 : Int)))) else (some (decide (a0 = (8 : Int)))))))) : Option Bool).bind fun x35 => (if x35 = true then (some (orI .i64 x21 (8 : Int))) else (some x21))) : Option Int).bind fun x33 => (((if (decide (a0 = (7 : Int))) = true then (some (orI .i64 x33 (256 : Int))) else (some x33)) : Option Int).bind fun x42 => (some x42))))
def f_rpc_about_post (a0 : Int) : Int → Value → IM → HL → Prop :=
  fun (r0 : Int) (v : Value) (M' : IM) (H' : HL) => (.int .i64 r0) = v ∧ H' = []
theorem f_rpc_about_ok (a0 : Int) (M : IM) (res : Int) (h : f_rpc_about a0 = some res) :
    Tri Tryz.prog 23 #[(Iv a0)] M [] (f_rpc_about_post a0 res) := by
 unfold f_rpc_about at h
 refine Te Tryz.func23 rfl rfl ?_
 intro F ρ hρ
 refine Sr (qa (Iv 0) (Ns (qa (Iv 0) (Nt ?_))))
 obtain ⟨x21, hj22, h⟩ := bnd h
 refine Jf (fun (x21 : Int) ρ' M' H' => M.le M' ∧ F = H' ∧ ρ' 0 = (Iv a0) ∧ ρ' 3 = (Iv x21)) x21 ?_ ?_
 have h := hj22
 refine Sr (qM (Iv a0) (hρ 0) (Nt (Bk (Cs (Bk (Cs (Bk (Cs (Bk ?_)))))))))
 obtain ⟨j24, hj24, h⟩ := bnd h
 refine WC.joinE (fun (x23 : Int) ρ' M' H' => M.le M' ∧ F = H' ∧ ρ' 0 = (Iv a0) ∧ ρ' 3 = (Iv x23)) j24 ?_ ?_
 have h324 := h
 have h := hj24
 refine Bk (Cs (Bk (Cs (Cs (Sr (qu (Bv (decide (a0 = 8))) (PO.eql rfl rfl) (qa (Bv (decide (a0 = 8))) (Nt (Cd (b := decide (a0 = 8)) rfl (fun hb25 => ?_) (fun hb25 => ?_))))))))))
 have h := ite_t hb25 h
 refine WC.exit (WQ.thenE (WQ.thenE (WQ.blockH (Tc (Cg (qm (Iv 0) (qu (Iv (orI .i64 0 (416 : Int))) (PO.or rfl rfl) (qa (Iv (orI .i64 0 (416 : Int))) (Wz (Bn (WQ.thenFE h ?_)))))))))))
 exact ⟨lr, rfl, (hρ 0), rfl⟩
 have h := ite_f hb25 h
 refine Ck (Tc (Cs ?_))
 obtain ⟨x26, hj27, h⟩ := bnd h
 refine Jf (fun (x26 : Bool) ρ' M' H' => M.le M' ∧ F = H' ∧ ρ' 0 = (Iv a0) ∧ ρ' 3 = (Iv 0) ∧ ρ' 4 = (Iv a0) ∧ ρ' 7 = (Bv x26)) x26 ?_ ?_
 have h := hj27
 refine Sr (qu (Bv (decide (a0 = 5))) (PO.eql rfl rfl) (qa (Bv (decide (a0 = 5))) (Nt (Cd (b := decide (a0 = 5)) rfl (fun hb28 => ?_) (fun hb28 => ?_)))))
 have h := ite_t hb28 h
 refine Ck ?_
 obtain rfl := oi h
 exact Tj ⟨lr, rfl, (hρ 0), rfl, rfl, rfl⟩
 have h := ite_f hb28 h
 refine Cg (qu (Bv (decide (a0 = 6))) (PO.eql rfl rfl) (qa (Bv (decide (a0 = 6))) (Wz ?_)))
 obtain rfl := oi h
 exact Tj ⟨lr, rfl, (hρ 0), rfl, rfl, rfl⟩
 rintro ρ27 M27 H27 ⟨hle27, rfl, hs27_0, hs27_3, hs27_4, hs27_7⟩
 refine Cd (b := x26) hs27_7 (fun hb29 => ?_) (fun hb29 => ?_)
 have h := ite_t hb29 h
 exact WC.exit (WQ.thenE (WQ.thenE (WQ.blockM rfl (WQ.thenE (WQ.blockH (WQ.thenFE h ⟨hle27, rfl, hs27_0, hs27_3⟩))))))
 have h := ite_f hb29 h
 refine Ck (Tc (Cs (Sr (qu (Bv (decide (a0 = 4))) (PO.eql hs27_4 rfl) (qa (Bv (decide (a0 = 4))) (Nt (Cd (b := decide (a0 = 4)) rfl (fun hb30 => ?_) (fun hb30 => ?_))))))))
 have h := ite_t hb30 h
 refine WC.exit (WQ.thenE (WQ.thenE (WQ.blockM rfl (WQ.thenE (WQ.blockM rfl (WQ.thenE ?_))))))
 have h := KK.early h h324
 refine WQ.blockH (Tc (Sr (qM (Iv 0) hs27_3 (qu (Iv (orI .i64 0 (116 : Int))) (PO.or rfl rfl) (qa (Iv (orI .i64 0 (116 : Int))) (Nt (WC.exit (WQ.blockM rfl (WQ.thenE (WQ.blockM rfl (WQ.thenE ?_)))))))))))
 refine WQ.blockH ?_
 obtain rfl := oi h
 exact Tj ⟨hle27, rfl, hs27_0, rfl⟩
 have h := ite_f hb30 h
 refine Ck (Tc (Cs (Sr (qu (Bv (decide (a0 = 2))) (PO.eql hs27_4 rfl) (qa (Bv (decide (a0 = 2))) (Nt (Cd (b := decide (a0 = 2)) rfl (fun hb31 => ?_) (fun hb31 => ?_))))))))
 have h := ite_t hb31 h
 refine WC.exit (WQ.thenE (WQ.thenE (WQ.blockM rfl (WQ.thenE (WQ.blockM rfl (WQ.thenE ?_))))))
 have h := KK.early h h324
 refine WQ.blockM rfl (WQ.thenE (WQ.blockH (Tc (Sr (qM (Iv 0) hs27_3 (qu (Iv (orI .i64 0 (7 : Int))) (PO.or rfl rfl) (qa (Iv (orI .i64 0 (7 : Int))) (Nt (WC.exit (WQ.blockM rfl (WQ.thenE ?_)))))))))))
 refine WQ.blockH ?_
 obtain rfl := oi h
 exact Tj ⟨hle27, rfl, hs27_0, rfl⟩
 have h := ite_f hb31 h
 refine Ck (Tc (Sr (qu (Bv (decide (a0 = 1))) (PO.eql hs27_4 rfl) (qa (Bv (decide (a0 = 1))) (Nt (Cd (b := decide (a0 = 1)) rfl (fun hb32 => ?_) (fun hb32 => ?_)))))))
 have h := ite_t hb32 h
 refine WC.exit (WQ.thenE (WQ.blockM rfl (WQ.thenE (WQ.blockM rfl (WQ.thenE ?_)))))
 have h := KK.early h h324
 refine WQ.blockM rfl (WQ.thenE (WQ.blockM rfl (WQ.thenE (WQ.blockH (Tc (Sr (qM (Iv 0) hs27_3 (qu (Iv (orI .i64 0 (1 : Int))) (PO.or rfl rfl) (qa (Iv (orI .i64 0 (1 : Int))) (Nt (WC.exit ?_)))))))))))
 refine WQ.blockH ?_
 obtain rfl := oi h
 exact Tj ⟨hle27, rfl, hs27_0, rfl⟩
 have h := ite_f hb32 h
 refine Ck (Tc (WC.exit (WQ.blockM rfl (WQ.thenE (WQ.blockM rfl (WQ.thenE ?_))))))
 have h := KK.early h h324
 refine WQ.blockM rfl (WQ.thenE (WQ.blockM rfl (WQ.thenE (WQ.blockM rfl (WQ.thenE (WQ.blockH ?_))))))
 obtain rfl := oi h
 exact Tj ⟨hle27, rfl, hs27_0, hs27_3⟩
 rintro x23 ρ24 M24 H24 rfl ⟨hle24, rfl, hs24_0, hs24_3⟩
 have h := (Sum.elim_inl _ _ _).symm.trans h
 refine Sr (qM (Iv x23) hs24_3 (qu (Iv (orI .i64 x23 (4 : Int))) (PO.or rfl rfl) (qa (Iv (orI .i64 x23 (4 : Int))) (Nt (WC.exit (WQ.blockM rfl (WQ.thenE (WQ.blockM rfl (WQ.thenE (WQ.blockM rfl (WQ.thenE ?_)))))))))))
 refine WQ.blockH ?_
 obtain rfl := oi h
 exact Tj ⟨hle24, rfl, hs24_0, rfl⟩
 rintro ρ22 M22 H22 ⟨hle22, rfl, hs22_0, hs22_3⟩
 obtain ⟨x33, hj34, h⟩ := bnd h
 refine Jf (fun (x33 : Int) ρ' M' H' => M22.le M' ∧ F = H' ∧ ρ' 0 = (Iv a0) ∧ ρ' 3 = (Iv x33)) x33 ?_ ?_
 have h := hj34
 refine Sr (qM (Iv a0) hs22_0 (Nt (Bk ?_)))
 obtain ⟨x35, hj36, h⟩ := bnd h
 refine Jf (fun (x35 : Bool) ρ' M' H' => M22.le M' ∧ F = H' ∧ ρ' 0 = (Iv a0) ∧ ρ' 3 = (Iv x21) ∧ ρ' 27 = (Bv x35)) x35 ?_ ?_
 have h := hj36
 refine Sr (qu (Bv (decide (a0 = 1))) (PO.eql rfl rfl) (qa (Bv (decide (a0 = 1))) (Nt (Cd (b := decide (a0 = 1)) rfl (fun hb37 => ?_) (fun hb37 => ?_)))))
 have h := ite_t hb37 h
 refine Ck ?_
 obtain rfl := oi h
 exact Tj ⟨lr, rfl, hs22_0, hs22_3, rfl⟩
 have h := ite_f hb37 h
 refine Sr (qu (Bv (decide (a0 = 3))) (PO.eql rfl rfl) (qa (Bv (decide (a0 = 3))) (Nt (Cd (b := decide (a0 = 3)) rfl (fun hb38 => ?_) (fun hb38 => ?_)))))
 have h := ite_t hb38 h
 refine Ck ?_
 obtain rfl := oi h
 exact Tj ⟨lr, rfl, hs22_0, hs22_3, rfl⟩
 have h := ite_f hb38 h
 refine Sr (qu (Bv (decide (a0 = 4))) (PO.eql rfl rfl) (qa (Bv (decide (a0 = 4))) (Nt (Cd (b := decide (a0 = 4)) rfl (fun hb39 => ?_) (fun hb39 => ?_)))))
 have h := ite_t hb39 h
 refine Ck ?_
 obtain rfl := oi h
 exact Tj ⟨lr, rfl, hs22_0, hs22_3, rfl⟩
 have h := ite_f hb39 h
 refine Sr (qu (Bv (decide (a0 = 7))) (PO.eql rfl rfl) (qa (Bv (decide (a0 = 7))) (Nt (Cd (b := decide (a0 = 7)) rfl (fun hb40 => ?_) (fun hb40 => ?_)))))
 have h := ite_t hb40 h
 refine Ck ?_
 obtain rfl := oi h
 exact Tj ⟨lr, rfl, hs22_0, hs22_3, rfl⟩
 have h := ite_f hb40 h
 refine Cg (qu (Bv (decide (a0 = 8))) (PO.eql rfl rfl) (qa (Bv (decide (a0 = 8))) (Wz ?_)))
 obtain rfl := oi h
 exact Tj ⟨lr, rfl, hs22_0, hs22_3, rfl⟩
 rintro ρ36 M36 H36 ⟨hle36, rfl, hs36_0, hs36_3, hs36_27⟩
 refine Cd (b := x35) hs36_27 (fun hb41 => ?_) (fun hb41 => ?_)
 have h := ite_t hb41 h
 refine Cg (qM (Iv x21) hs36_3 (qu (Iv (orI .i64 x21 (8 : Int))) (PO.or rfl rfl) (qa (Iv (orI .i64 x21 (8 : Int))) (Wz (Bn ?_)))))
 obtain rfl := oi h
 exact Tj ⟨hle36, rfl, hs36_0, rfl⟩
 have h := ite_f hb41 h
 refine Ck (Bn ?_)
 obtain rfl := oi h
 exact Tj ⟨hle36, rfl, hs36_0, hs36_3⟩
 rintro ρ34 M34 H34 ⟨hle34, rfl, hs34_0, hs34_3⟩
 obtain ⟨x42, hj43, h⟩ := bnd h
 refine Jf (fun (x42 : Int) ρ' M' H' => M34.le M' ∧ F = H' ∧ ρ' 3 = (Iv x42)) x42 ?_ ?_
 have h := hj43
 refine Sr (qM (Iv a0) hs34_0 (qu (Bv (decide (a0 = 7))) (PO.eql rfl rfl) (Nt (Cd (b := decide (a0 = 7)) rfl (fun hb44 => ?_) (fun hb44 => ?_)))))
 have h := ite_t hb44 h
 refine Cg (qM (Iv x33) hs34_3 (qu (Iv (orI .i64 x33 (256 : Int))) (PO.or rfl rfl) (qa (Iv (orI .i64 x33 (256 : Int))) (Wz ?_))))
 obtain rfl := oi h
 exact Tj ⟨lr, rfl, rfl⟩
 have h := ite_f hb44 h
 refine Ck ?_
 obtain rfl := oi h
 exact Tj ⟨lr, rfl, hs34_3⟩
 rintro ρ43 M43 H43 ⟨hle43, rfl, hs43_3⟩
 exact Sr (qM (Iv x42) hs43_3 (qa (Iv x42) (Nt (Cr (Rf h [] rfl (Rs rfl rfl) ((hle22.trans hle34).trans hle43) ⟨rfl, rfl⟩)))))

noncomputable def f_rpc_Check_1 (a0 : Int) (a1 : T_api_Rpc) : Option Bool :=
  ((f_rpc_about a1.Kind).bind fun r21 => (some (decide ((andI .i64 r21 a0) ≠ (0 : Int)))))
def f_rpc_Check_1_post (a0 : Int) (a1 : T_api_Rpc) (v1_11 v1_14 : Value) (g1 : Nat) : Bool → Value → IM → HL → Prop :=
  fun (r0 : Bool) (v : Value) (M' : IM) (H' : HL) => (.bool r0) = v ∧ H' = [[(g1, .cells #[(.int .i64 a1.Kind), (.int .i64 a1.From), (.int .i64 a1.To), (.int .i64 a1.Term), (.bool a1.Pre), (.bool a1.Ok), (.int .i64 a1.Leader), (.int .i64 a1.At), (.int .i64 a1.AtTerm), (.int .i64 a1.High), (.int .i64 a1.Code), v1_11, (.int .i64 a1.Size), (.int .i64 a1.Pos), v1_14] 25 (0, 0))]]
theorem f_rpc_Check_1_ok (a0 : Int) (a1 : T_api_Rpc) (M : IM) (v1_11 v1_14 : Value) (g1 : Nat) (h1_11 : RS kd_api_Batch M v1_11 a1.Batches) (h1_14 : RS (Kd.int .u8) M v1_14 a1.Data) (res : Bool) (h : f_rpc_Check_1 a0 a1 = some res) :
    Tri Tryz.prog 47 #[(Iv a0), (pt g1 0)] M [[(g1, .cells (l25 a1 v1_11 v1_14).toArray 25 (0, 0))]] (f_rpc_Check_1_post a0 a1 v1_11 v1_14 g1 res) := by
 unfold f_rpc_Check_1 at h
 refine Te Tryz.func47 rfl rfl ?_
 intro F ρ hρ
 refine Sr (qa (Bv false) (Ns (qu (pt g1 0) (Fa fo25_0 (hρ 1) rfl) (qu (Iv a1.Kind) (Lb 0 pl3 rfl rfl rfl) ?_))))
 obtain ⟨r21, hr22, h⟩ := bnd h
 refine We (Ca co23 (f_rpc_about_ok a1.Kind _ r21 hr22) (args1 rfl)) rfl ?_
 rintro _ M23 _ hle24 ⟨_, ⟨rfl, rfl⟩, rfl⟩
 exact WL.a0 (qM (Iv a0) (hρ 0) (qu (Iv (andI .i64 r21 a0)) (PO.and rfl rfl) (qu (Bv (decide ((andI .i64 r21 a0) ≠ 0))) (PO.neq rfl rfl) (qa (Bv (decide ((andI .i64 r21 a0) ≠ 0))) (Nt (Cr (Rf h [[(g1, .cells (l25 a1 v1_11 v1_14).toArray 25 (0, 0))]] rfl (Rs rfl rfl) hle24 ⟨rfl, rfl⟩)))))))

noncomputable def f_rpc_number (a0 : Int) (a1 : Bool) (a2 : Int) : Option Bool :=
  (if (!a1) = true then (some (decide (a0 = (0 : Int)))) else (((if (decide ((0 : Int) ≤ a0)) = true then (some (decide (a0 ≤ a2))) else (some false)) : Option Bool).bind fun x22 => (some x22)))
def f_rpc_number_post (a0 : Int) (a1 : Bool) (a2 : Int) : Bool → Value → IM → HL → Prop :=
  fun (r0 : Bool) (v : Value) (M' : IM) (H' : HL) => (.bool r0) = v ∧ H' = []
theorem f_rpc_number_ok (a0 : Int) (a1 : Bool) (a2 : Int) (M : IM) (res : Bool) (h : f_rpc_number a0 a1 a2 = some res) :
    Tri Tryz.prog 48 #[(Iv a0), (Bv a1), (Iv a2)] M [] (f_rpc_number_post a0 a1 a2 res) := by
 unfold f_rpc_number at h
 refine Te Tryz.func48 rfl rfl ?_
 intro F ρ hρ
 refine Sr (qa (Bv false) (Nt (Cs (Sr (qM (Bv a1) (hρ 1) (qu (Bv (!a1)) (PO.not rfl) (Nt (Cd (b := !a1) rfl (fun hb21 => ?_) (fun hb21 => ?_)))))))))
 have h := ite_t hb21 h
 exact Sr (qM (Iv a0) (hρ 0) (qu (Bv (decide (a0 = 0))) (PO.eql rfl rfl) (qa (Bv (decide (a0 = 0))) (Nt (Cr (Tr (Rf h [] rfl (Rs rfl rfl) lr ⟨rfl, rfl⟩)))))))
 have h := ite_f hb21 h
 refine Ck (Tc ?_)
 obtain ⟨x22, hj23, h⟩ := bnd h
 refine Jf (fun (x22 : Bool) ρ' M' H' => M.le M' ∧ F = H' ∧ ρ' 6 = (Bv x22)) x22 ?_ ?_
 have h := hj23
 refine Cg (qM (Iv a0) (hρ 0) (qu (Bv (decide ((0 : Int) ≤ a0))) (PO.geq rfl rfl) (qm (Bv (decide ((0 : Int) ≤ a0))) ?_)))
 rcases Bt (decide ((0 : Int) ≤ a0)) with hb24 | hb24
 have h := ite_t hb24 h
 refine On 13 rfl rfl hb24 (qM (Iv a0) (hρ 0) (On 13 rfl rfl hb24 (qM (Iv a2) (hρ 2) (qo 13 hb24 (Bv (decide (a0 ≤ a2))) (PO.leq rfl rfl) (qu (Bv (decide (a0 ≤ a2))) (Pt rfl hb24 rfl) (qa (Bv (decide (a0 ≤ a2))) (Wz ?_)))))))
 obtain rfl := oi h
 exact Tj ⟨lr, rfl, rfl⟩
 have h := ite_f hb24 h
 iterate 3 refine Of 13 rfl rfl hb24 rfl ?_
 refine qu (Bv false) (Pf rfl hb24 rfl) (qa (Bv false) (Wz ?_))
 obtain rfl := oi h
 exact Tj ⟨lr, rfl, rfl⟩
 rintro ρ23 M23 H23 ⟨hle23, rfl, hs23_6⟩
 exact Cr (Rf h [] rfl (Rs rfl hs23_6) hle23 ⟨rfl, rfl⟩)

noncomputable def f_record_about (a0 : Int) : Option Int :=
  (if (decide (a0 = (2 : Int))) = true then (some (1027 : Int)) else (((if (decide (a0 = (3 : Int))) = true then (some (decide (a0 = (3 : Int)))) else (if (decide (a0 = (4 : Int))) = true then (some (decide (a0 = (4 : Int)))) else (if (decide (a0 = (5 : Int))) = true then (some (decide (a0 = (5 : Int)))) else (some (decide (a0 = (6 : Int))))))) : Option Bool).bind fun x22 => (if x22 = true then (some (3 : Int)) else (if (decide (a0 = (7 : Int))) = true then (some (132 : Int)) else (if (decide (a0 = (8 : Int))) = true then (some (6172 : Int)) else (if (decide (a0 = (9 : Int))) = true then (some (14366 : Int)) else (if (decide (a0 = (10 : Int))) = true then (some (836 : Int)) else (if (decide (a0 = (11 : Int))) = true then (some (4 : Int)) else (if (decide (a0 = (12 : Int))) = true then (some (32 : Int)) else (some (0 : Int)))))))))))
def f_record_about_post (a0 : Int) : Int → Value → IM → HL → Prop :=
  fun (r0 : Int) (v : Value) (M' : IM) (H' : HL) => (.int .i64 r0) = v ∧ H' = []
theorem f_record_about_ok (a0 : Int) (M : IM) (res : Int) (h : f_record_about a0 = some res) :
    Tri Tryz.prog 93 #[(Iv a0)] M [] (f_record_about_post a0 res) := by
 unfold f_record_about at h
 refine Te Tryz.func93 rfl rfl ?_
 intro F ρ hρ
 refine Sr (qa (Iv 0) (Nt (Cs (Sr (qM (Iv a0) (hρ 0) (Nt (Bk (Sr (qu (Bv (decide (a0 = 2))) (PO.eql rfl rfl) (qa (Bv (decide (a0 = 2))) (Nt ?_)))))))))))
 refine Cd (b := decide (a0 = 2)) rfl (fun hb21 => ?_) (fun hb21 => ?_)
 have h := ite_t hb21 h
 exact Sr (qa (Iv 1027) (Nt (Cr (Br (Tr (Rf h [] rfl (Rs rfl rfl) lr ⟨rfl, rfl⟩))))))
 have h := ite_f hb21 h
 obtain ⟨x22, hj23, h⟩ := bnd h
 refine Jf (fun (x22 : Bool) ρ' M' H' => M.le M' ∧ F = H' ∧ ρ' 3 = (Iv a0) ∧ ρ' 6 = (Bv x22)) x22 ?_ ?_
 have h := hj23
 refine Sr (qu (Bv (decide (a0 = 3))) (PO.eql rfl rfl) (qa (Bv (decide (a0 = 3))) (Nt (Cd (b := decide (a0 = 3)) rfl (fun hb24 => ?_) (fun hb24 => ?_)))))
 have h := ite_t hb24 h
 refine Ck ?_
 obtain rfl := oi h
 exact Tj ⟨lr, rfl, rfl, rfl⟩
 have h := ite_f hb24 h
 refine Sr (qu (Bv (decide (a0 = 4))) (PO.eql rfl rfl) (qa (Bv (decide (a0 = 4))) (Nt (Cd (b := decide (a0 = 4)) rfl (fun hb25 => ?_) (fun hb25 => ?_)))))
 have h := ite_t hb25 h
 refine Ck ?_
 obtain rfl := oi h
 exact Tj ⟨lr, rfl, rfl, rfl⟩
 have h := ite_f hb25 h
 refine Sr (qu (Bv (decide (a0 = 5))) (PO.eql rfl rfl) (qa (Bv (decide (a0 = 5))) (Nt (Cd (b := decide (a0 = 5)) rfl (fun hb26 => ?_) (fun hb26 => ?_)))))
 have h := ite_t hb26 h
 refine Ck ?_
 obtain rfl := oi h
 exact Tj ⟨lr, rfl, rfl, rfl⟩
 have h := ite_f hb26 h
 refine Cg (qu (Bv (decide (a0 = 6))) (PO.eql rfl rfl) (qa (Bv (decide (a0 = 6))) (Wz ?_)))
 obtain rfl := oi h
 exact Tj ⟨lr, rfl, rfl, rfl⟩
 rintro ρ23 M23 H23 ⟨hle23, rfl, hs23_3, hs23_6⟩
 refine Cd (b := x22) hs23_6 (fun hb27 => ?_) (fun hb27 => ?_)
 have h := ite_t hb27 h
 exact Sr (qa (Iv 3) (Nt (Cr (Br (Tr (Rf h [] rfl (Rs rfl rfl) hle23 ⟨rfl, rfl⟩))))))
 have h := ite_f hb27 h
 refine Sr (qu (Bv (decide (a0 = 7))) (PO.eql hs23_3 rfl) (qa (Bv (decide (a0 = 7))) (Nt (Cd (b := decide (a0 = 7)) rfl (fun hb28 => ?_) (fun hb28 => ?_)))))
 have h := ite_t hb28 h
 exact Sr (qa (Iv 132) (Nt (Cr (Br (Tr (Rf h [] rfl (Rs rfl rfl) hle23 ⟨rfl, rfl⟩))))))
 have h := ite_f hb28 h
 refine Sr (qu (Bv (decide (a0 = 8))) (PO.eql hs23_3 rfl) (qa (Bv (decide (a0 = 8))) (Nt (Cd (b := decide (a0 = 8)) rfl (fun hb29 => ?_) (fun hb29 => ?_)))))
 have h := ite_t hb29 h
 exact Sr (qa (Iv 6172) (Nt (Cr (Br (Tr (Rf h [] rfl (Rs rfl rfl) hle23 ⟨rfl, rfl⟩))))))
 have h := ite_f hb29 h
 refine Sr (qu (Bv (decide (a0 = 9))) (PO.eql hs23_3 rfl) (qa (Bv (decide (a0 = 9))) (Nt (Cd (b := decide (a0 = 9)) rfl (fun hb30 => ?_) (fun hb30 => ?_)))))
 have h := ite_t hb30 h
 exact Sr (qa (Iv 14366) (Nt (Cr (Br (Tr (Rf h [] rfl (Rs rfl rfl) hle23 ⟨rfl, rfl⟩))))))
 have h := ite_f hb30 h
 refine Sr (qu (Bv (decide (a0 = 10))) (PO.eql hs23_3 rfl) (qa (Bv (decide (a0 = 10))) (Nt (Cd (b := decide (a0 = 10)) rfl (fun hb31 => ?_) (fun hb31 => ?_)))))
 have h := ite_t hb31 h
 exact Sr (qa (Iv 836) (Nt (Cr (Br (Tr (Rf h [] rfl (Rs rfl rfl) hle23 ⟨rfl, rfl⟩))))))
 have h := ite_f hb31 h
 refine Sr (qu (Bv (decide (a0 = 11))) (PO.eql hs23_3 rfl) (qa (Bv (decide (a0 = 11))) (Nt (Cd (b := decide (a0 = 11)) rfl (fun hb32 => ?_) (fun hb32 => ?_)))))
 have h := ite_t hb32 h
 exact Sr (qa (Iv 4) (Nt (Cr (Br (Tr (Rf h [] rfl (Rs rfl rfl) hle23 ⟨rfl, rfl⟩))))))
 have h := ite_f hb32 h
 refine Sr (qu (Bv (decide (a0 = 12))) (PO.eql hs23_3 rfl) (qa (Bv (decide (a0 = 12))) (Nt (Cd (b := decide (a0 = 12)) rfl (fun hb33 => ?_) (fun hb33 => ?_)))))
 have h := ite_t hb33 h
 exact Sr (qa (Iv 32) (Nt (Cr (Br (Tr (Rf h [] rfl (Rs rfl rfl) hle23 ⟨rfl, rfl⟩))))))
 have h := ite_f hb33 h
 exact Ck (Bn (Tc (Sr (qa (Iv 0) (Nt (Cr (Rf h [] rfl (Rs rfl rfl) hle23 ⟨rfl, rfl⟩)))))))

noncomputable def f_record_Check_1 (a0 : Int) (a1 : T_api_Record) : Option Bool :=
  ((f_record_about a1.Kind).bind fun r21 => (some (decide ((andI .i64 r21 a0) ≠ (0 : Int)))))
def f_record_Check_1_post (a0 : Int) (a1 : T_api_Record) (v1_14 v1_15 v1_16 v1_17 : Value) (g1 : Nat) : Bool → Value → IM → HL → Prop :=
  fun (r0 : Bool) (v : Value) (M' : IM) (H' : HL) => (.bool r0) = v ∧ H' = [[(g1, .cells #[(.int .i64 a1.Kind), (.int .i64 a1.Broker), (.int .i64 a1.Epoch), (.int .i64 a1.Topic), (.int .i64 a1.Part), (.int .i64 a1.Leader), (.int .i64 a1.Client), (.int .i64 a1.Serial), (.int .i64 a1.Code), (.bool a1.Flag), (.string a1.Name), (.string a1.Key), (.string a1.Value), (.string a1.Rack), v1_14, v1_15, v1_16, v1_17] 58 (0, 0))]]
theorem f_record_Check_1_ok (a0 : Int) (a1 : T_api_Record) (M : IM) (v1_14 v1_15 v1_16 v1_17 : Value) (g1 : Nat) (h1_14 : RS (Kd.int .i64) M v1_14 a1.Ids) (h1_15 : RS (Kd.int .i64) M v1_15 a1.Isr) (h1_16 : RS (Kd.int .i64) M v1_16 a1.Add) (h1_17 : RS (Kd.int .i64) M v1_17 a1.Drop) (res : Bool) (h : f_record_Check_1 a0 a1 = some res) :
    Tri Tryz.prog 112 #[(Iv a0), (pt g1 0)] M [[(g1, .cells (l58 a1 v1_14 v1_15 v1_16 v1_17).toArray 58 (0, 0))]] (f_record_Check_1_post a0 a1 v1_14 v1_15 v1_16 v1_17 g1 res) := by
 unfold f_record_Check_1 at h
 refine Te Tryz.func112 rfl rfl ?_
 intro F ρ hρ
 refine Sr (qa (Bv false) (Ns (qu (pt g1 0) (Fa fo58_0 (hρ 1) rfl) (qu (Iv a1.Kind) (Lb 0 pl3 rfl rfl rfl) ?_))))
 obtain ⟨r21, hr22, h⟩ := bnd h
 refine We (Ca co93 (f_record_about_ok a1.Kind _ r21 hr22) (args1 rfl)) rfl ?_
 rintro _ M23 _ hle24 ⟨_, ⟨rfl, rfl⟩, rfl⟩
 exact WL.a0 (qM (Iv a0) (hρ 0) (qu (Iv (andI .i64 r21 a0)) (PO.and rfl rfl) (qu (Bv (decide ((andI .i64 r21 a0) ≠ 0))) (PO.neq rfl rfl) (qa (Bv (decide ((andI .i64 r21 a0) ≠ 0))) (Nt (Cr (Rf h [[(g1, .cells (l58 a1 v1_14 v1_15 v1_16 v1_17).toArray 58 (0, 0))]] rfl (Rs rfl rfl) hle24 ⟨rfl, rfl⟩)))))))

noncomputable def f_record_number (a0 : Int) (a1 : Bool) (a2 : Int) (a3 : Int) : Option Bool :=
  (if (!a1) = true then (some (decide (a0 = (0 : Int)))) else (((if (decide (a2 ≤ a0)) = true then (some (decide (a0 ≤ a3))) else (some false)) : Option Bool).bind fun x22 => (some x22)))
def f_record_number_post (a0 : Int) (a1 : Bool) (a2 : Int) (a3 : Int) : Bool → Value → IM → HL → Prop :=
  fun (r0 : Bool) (v : Value) (M' : IM) (H' : HL) => (.bool r0) = v ∧ H' = []
theorem f_record_number_ok (a0 : Int) (a1 : Bool) (a2 : Int) (a3 : Int) (M : IM) (res : Bool) (h : f_record_number a0 a1 a2 a3 = some res) :
    Tri Tryz.prog 114 #[(Iv a0), (Bv a1), (Iv a2), (Iv a3)] M [] (f_record_number_post a0 a1 a2 a3 res) := by
 unfold f_record_number at h
 refine Te Tryz.func114 rfl rfl ?_
 intro F ρ hρ
 refine Sr (qa (Bv false) (Nt (Cs (Sr (qM (Bv a1) (hρ 1) (qu (Bv (!a1)) (PO.not rfl) (Nt (Cd (b := !a1) rfl (fun hb21 => ?_) (fun hb21 => ?_)))))))))
 have h := ite_t hb21 h
 exact Sr (qM (Iv a0) (hρ 0) (qu (Bv (decide (a0 = 0))) (PO.eql rfl rfl) (qa (Bv (decide (a0 = 0))) (Nt (Cr (Tr (Rf h [] rfl (Rs rfl rfl) lr ⟨rfl, rfl⟩)))))))
 have h := ite_f hb21 h
 refine Ck (Tc ?_)
 obtain ⟨x22, hj23, h⟩ := bnd h
 refine Jf (fun (x22 : Bool) ρ' M' H' => M.le M' ∧ F = H' ∧ ρ' 8 = (Bv x22)) x22 ?_ ?_
 have h := hj23
 refine Cg (qM (Iv a0) (hρ 0) (qM (Iv a2) (hρ 2) (qu (Bv (decide (a2 ≤ a0))) (PO.geq rfl rfl) (qm (Bv (decide (a2 ≤ a0))) ?_))))
 rcases Bt (decide (a2 ≤ a0)) with hb24 | hb24
 have h := ite_t hb24 h
 refine On 16 rfl rfl hb24 (qM (Iv a0) (hρ 0) (On 16 rfl rfl hb24 (qM (Iv a3) (hρ 3) (qo 16 hb24 (Bv (decide (a0 ≤ a3))) (PO.leq rfl rfl) (qu (Bv (decide (a0 ≤ a3))) (Pt rfl hb24 rfl) (qa (Bv (decide (a0 ≤ a3))) (Wz ?_)))))))
 obtain rfl := oi h
 exact Tj ⟨lr, rfl, rfl⟩
 have h := ite_f hb24 h
 iterate 3 refine Of 16 rfl rfl hb24 rfl ?_
 refine qu (Bv false) (Pf rfl hb24 rfl) (qa (Bv false) (Wz ?_))
 obtain rfl := oi h
 exact Tj ⟨lr, rfl, rfl⟩
 rintro ρ23 M23 H23 ⟨hle23, rfl, hs23_8⟩
 exact Cr (Rf h [] rfl (Rs rfl hs23_8) hle23 ⟨rfl, rfl⟩)

noncomputable def f_record_Name_l0 (a0 : ByteArray) (s_ : Int) : Option (Int ⊕ (Unit ⊕ Unit)) :=
  match s_ with
  | x32 =>
    (if (decide (x32 < ((bytesOf a0).length : Int))) = true then (grd (0 ≤ x32 ∧ x32 < (bytesOf a0).length) (((if (decide ((97 : Int) ≤ (rd (bytesOf a0) x32))) = true then (if (decide ((48 : Int) ≤ (rd (bytesOf a0) x32))) = true then (some (decide ((rd (bytesOf a0) x32) ≤ (122 : Int)), decide ((rd (bytesOf a0) x32) ≤ (57 : Int)))) else (some (decide ((rd (bytesOf a0) x32) ≤ (122 : Int)), false))) else (if (decide ((48 : Int) ≤ (rd (bytesOf a0) x32))) = true then (some (false, decide ((rd (bytesOf a0) x32) ≤ (57 : Int)))) else (some (false, false)))) : Option (Bool × Bool)).bind fun (x41, x42) => (((if (!x41) = true then (if (!x42) = true then (if (decide ((rd (bytesOf a0) x32) ≠ (46 : Int))) = true then (some (decide ((rd (bytesOf a0) x32) ≠ (45 : Int)))) else (some false)) else (some false)) else (some false)) : Option Bool).bind fun x47 => (if x47 = true then (some (Sum.inr (Sum.inr ()))) else (some (Sum.inl (IntKind.i64.wrap (x32 + (1 : Int))))))))) else (some (Sum.inr (Sum.inl ()))))
noncomputable def f_record_Name (a0 : ByteArray) : Option Bool :=
  (((if (decide (a0 = (⟨#[]⟩ : ByteArray))) = true then (some true) else (if (decide ((40 : Int) < (a0.size : Int))) = true then (some true) else (if (decide (a0 = (⟨#[46]⟩ : ByteArray))) = true then (some true) else (some (decide (a0 = (⟨#[46, 46]⟩ : ByteArray))))))) : Option Bool).bind fun x21 => (if x21 = true then (some false) else ((((iter (f_record_Name_l0 a0) (0 : Int)).bind (Sum.elim (fun _ => (some (Sum.inl ()))) (fun _ => (((some false)).bind fun r => some (Sum.inr r))))) : Option (Unit ⊕ Bool)).bind (Sum.elim (fun _ => (some true)) some))))
def f_record_Name_post (a0 : ByteArray) : Bool → Value → IM → HL → Prop :=
  fun (r0 : Bool) (v : Value) (M' : IM) (H' : HL) => (.bool r0) = v ∧ H' = []
theorem f_record_Name_ok (a0 : ByteArray) (M : IM) (res : Bool) (h : f_record_Name a0 = some res) :
    Tri Tryz.prog 116 #[(Sv a0)] M [] (f_record_Name_post a0 res) := by
 unfold f_record_Name at h
 refine Te Tryz.func116 rfl rfl ?_
 intro F ρ hρ
 refine Sr (qa (Bv false) (Nt (Cs ?_)))
 obtain ⟨x21, hj22, h⟩ := bnd h
 refine Jf (fun (x21 : Bool) ρ' M' H' => M.le M' ∧ F = H' ∧ ρ' 0 = (Sv a0) ∧ ρ' 21 = (Bv x21)) x21 ?_ ?_
 have h := hj22
 refine Cg (qM (Sv a0) (hρ 0) (qu (Bv (decide (a0 = (⟨#[]⟩ : ByteArray)))) (PO.seql rfl rfl) (qm (Bv (decide (a0 = (⟨#[]⟩ : ByteArray)))) ?_)))
 rcases Bt (decide (a0 = (⟨#[]⟩ : ByteArray))) with hb23 | hb23
 have h := ite_t hb23 h
 iterate 3 refine Of 9 rfl rfl hb23 rfl ?_
 refine qu (Bv true) (Pt rfl hb23 rfl) (qm (Bv true) ?_)
 iterate 2 refine Of 14 rfl rfl rfl rfl ?_
 refine qu (Bv true) (Pt rfl rfl rfl) (qm (Bv true) ?_)
 iterate 2 refine Of 18 rfl rfl rfl rfl ?_
 refine qu (Bv true) (Pt rfl rfl rfl) (Wz ?_)
 obtain rfl := oi h
 exact Tj ⟨lr, rfl, (hρ 0), rfl⟩
 have h := ite_f hb23 h
 refine On 9 rfl rfl hb23 (qM (Sv a0) (hρ 0) (qo 9 hb23 (Iv (a0.size : Int)) (PO.lenStr Tryz.underlying9 rfl) (qo 9 hb23 (Bv (decide ((40 : Int) < (a0.size : Int)))) (PO.gtr rfl rfl) (qu (Bv (decide ((40 : Int) < (a0.size : Int)))) (Pf rfl hb23 rfl) (qm (Bv (decide ((40 : Int) < (a0.size : Int)))) ?_)))))
 rcases Bt (decide ((40 : Int) < (a0.size : Int))) with hb24 | hb24
 have h := ite_t hb24 h
 iterate 2 refine Of 14 rfl rfl hb24 rfl ?_
 refine qu (Bv true) (Pt rfl hb24 rfl) (qm (Bv true) ?_)
 iterate 2 refine Of 18 rfl rfl rfl rfl ?_
 refine qu (Bv true) (Pt rfl rfl rfl) (Wz ?_)
 obtain rfl := oi h
 exact Tj ⟨lr, rfl, (hρ 0), rfl⟩
 have h := ite_f hb24 h
 refine On 14 rfl rfl hb24 (qM (Sv a0) (hρ 0) (qo 14 hb24 (Bv (decide (a0 = (⟨#[46]⟩ : ByteArray)))) (PO.seql rfl rfl) (qu (Bv (decide (a0 = (⟨#[46]⟩ : ByteArray)))) (Pf rfl hb24 rfl) (qm (Bv (decide (a0 = (⟨#[46]⟩ : ByteArray)))) ?_))))
 rcases Bt (decide (a0 = (⟨#[46]⟩ : ByteArray))) with hb25 | hb25
 have h := ite_t hb25 h
 iterate 2 refine Of 18 rfl rfl hb25 rfl ?_
 refine qu (Bv true) (Pt rfl hb25 rfl) (Wz ?_)
 obtain rfl := oi h
 exact Tj ⟨lr, rfl, (hρ 0), rfl⟩
 have h := ite_f hb25 h
 refine On 18 rfl rfl hb25 (qM (Sv a0) (hρ 0) (qo 18 hb25 (Bv (decide (a0 = (⟨#[46, 46]⟩ : ByteArray)))) (PO.seql rfl rfl) (qu (Bv (decide (a0 = (⟨#[46, 46]⟩ : ByteArray)))) (Pf rfl hb25 rfl) (Wz ?_))))
 obtain rfl := oi h
 exact Tj ⟨lr, rfl, (hρ 0), rfl⟩
 rintro ρ22 M22 H22 ⟨hle22, rfl, hs22_0, hs22_21⟩
 refine Cd (b := x21) hs22_21 (fun hb26 => ?_) (fun hb26 => ?_)
 have h := ite_t hb26 h
 exact Sr (qa (Bv false) (Nt (Cr (Tr (Rf h [] rfl (Rs rfl rfl) hle22 ⟨rfl, rfl⟩)))))
 have h := ite_f hb26 h
 refine Ck (Tc ?_)
 obtain ⟨j27, hj27, h⟩ := bnd h
 refine WC.joinE (fun (_ : Unit) ρ' M' H' => M22.le M' ∧ F = H') j27 ?_ ?_
 have h327 := h
 have h := hj27
 refine Sr (qM (Sv a0) hs22_0 (We (EO.s2b Tryz.underlying9 Tryz.underlying23 Tryz.underlying5 rfl) rfl ?_))
 rintro v30 _ _ - ⟨rfl, c28, rfl, h29⟩
 refine qu (Iv ((bytesOf a0).length : Int)) (PO.lenS Tryz.underlying23 rfl h29.len) (qm (Iv 0) (Nt (Bk ?_)))
 obtain ⟨e31, he31, hK31⟩ := bnd h
 clear h
 refine WC.loop he31 (fun (x32 : Int) ρ' M' H' => M22.le M' ∧ c28 :: F = H' ∧ ρ' 23 = v30 ∧ ρ' 24 = (Iv ((bytesOf a0).length : Int)) ∧ ρ' 25 = (Iv x32)) ?_ ?_
 exact ⟨lr, rfl, rfl, rfl, rfl⟩
 rintro x32 o31 ρ31 M31 H31 h ⟨hle31, rfl, hs31_23, hs31_24, hs31_25⟩
 unfold f_record_Name_l0 at h
 refine Sr (qu (Bv (decide (x32 < ((bytesOf a0).length : Int)))) (PO.lss hs31_25 hs31_24) (Nt (Cs (Cd (b := decide (x32 < ((bytesOf a0).length : Int))) rfl (fun hb33 => ?_) (fun hb33 => ?_)))))
 have h := ite_t hb33 h
 refine Ck (Tc (Cs (Bk (Sr ?_))))
 obtain ⟨hg34, h⟩ := grd_i h
 have h29 := h29.mono hle31
 obtain ⟨p35, cs36, hat37, hrc38, hhas39⟩ := h29.at hg34.1 hg34.2
 obtain rfl := hrc38
 refine qu (.pointer (some p35)) (PO.indexAddr (n := (bytesOf a0).length) Tryz.underlying23 sz5 hs31_23 hs31_25 hg34.1 hg34.2 hat37) (qu (Yv (rd (bytesOf a0) x32)) (PO.loadC 0 pl5 rfl rfl (chunkHas0 hhas39)) (qa (Yv (rd (bytesOf a0) x32)) (Nt ?_)))
 obtain ⟨j43, hj43, h⟩ := bnd h
 refine Jf (fun (p_ : (Bool × Bool)) ρ' M' H' => match p_ with | (x41, x42) => M31.le M' ∧ c28 :: F = H' ∧ ρ' 4 = (Yv (rd (bytesOf a0) x32)) ∧ ρ' 5 = (Bv x41) ∧ ρ' 6 = (Bv x42) ∧ ρ' 23 = v30 ∧ ρ' 24 = (Iv ((bytesOf a0).length : Int)) ∧ ρ' 25 = (Iv x32)) j43 ?_ ?_
 have h := hj43
 refine Cg (qm (Yv (rd (bytesOf a0) x32)) (qu (Bv (decide ((97 : Int) ≤ (rd (bytesOf a0) x32)))) (PO.geq rfl rfl) (qm (Bv (decide ((97 : Int) ≤ (rd (bytesOf a0) x32)))) ?_)))
 rcases Bt (decide ((97 : Int) ≤ (rd (bytesOf a0) x32))) with hb44 | hb44
 have h := ite_t hb44 h
 refine On 31 rfl rfl hb44 (qm (Yv (rd (bytesOf a0) x32)) (qo 31 hb44 (Bv (decide ((rd (bytesOf a0) x32) ≤ 122))) (PO.leq rfl rfl) (qu (Bv (decide ((rd (bytesOf a0) x32) ≤ 122))) (Pt rfl hb44 rfl) (qm (Yv (rd (bytesOf a0) x32)) (qu (Bv (decide ((48 : Int) ≤ (rd (bytesOf a0) x32)))) (PO.geq rfl rfl) (qm (Bv (decide ((48 : Int) ≤ (rd (bytesOf a0) x32)))) ?_))))))
 rcases Bt (decide ((48 : Int) ≤ (rd (bytesOf a0) x32))) with hb45 | hb45
 have h := ite_t hb45 h
 refine On 37 rfl rfl hb45 (qm (Yv (rd (bytesOf a0) x32)) (qo 37 hb45 (Bv (decide ((rd (bytesOf a0) x32) ≤ 57))) (PO.leq rfl rfl) (qu (Bv (decide ((rd (bytesOf a0) x32) ≤ 57))) (Pt rfl hb45 rfl) (qa (Bv (decide ((rd (bytesOf a0) x32) ≤ 122))) (qa (Bv (decide ((rd (bytesOf a0) x32) ≤ 57))) (Wz ?_))))))
 obtain rfl := oi h
 exact Tj ⟨lr, rfl, rfl, rfl, rfl, hs31_23, hs31_24, hs31_25⟩
 have h := ite_f hb45 h
 iterate 2 refine Of 37 rfl rfl hb45 rfl ?_
 refine qu (Bv false) (Pf rfl hb45 rfl) (qa (Bv (decide ((rd (bytesOf a0) x32) ≤ 122))) (qa (Bv false) (Wz ?_)))
 obtain rfl := oi h
 exact Tj ⟨lr, rfl, rfl, rfl, rfl, hs31_23, hs31_24, hs31_25⟩
 have h := ite_f hb44 h
 iterate 2 refine Of 31 rfl rfl hb44 rfl ?_
 refine qu (Bv false) (Pf rfl hb44 rfl) (qm (Yv (rd (bytesOf a0) x32)) (qu (Bv (decide ((48 : Int) ≤ (rd (bytesOf a0) x32)))) (PO.geq rfl rfl) (qm (Bv (decide ((48 : Int) ≤ (rd (bytesOf a0) x32)))) ?_)))
 rcases Bt (decide ((48 : Int) ≤ (rd (bytesOf a0) x32))) with hb46 | hb46
 have h := ite_t hb46 h
 refine On 37 rfl rfl hb46 (qm (Yv (rd (bytesOf a0) x32)) (qo 37 hb46 (Bv (decide ((rd (bytesOf a0) x32) ≤ 57))) (PO.leq rfl rfl) (qu (Bv (decide ((rd (bytesOf a0) x32) ≤ 57))) (Pt rfl hb46 rfl) (qa (Bv false) (qa (Bv (decide ((rd (bytesOf a0) x32) ≤ 57))) (Wz ?_))))))
 obtain rfl := oi h
 exact Tj ⟨lr, rfl, rfl, rfl, rfl, hs31_23, hs31_24, hs31_25⟩
 have h := ite_f hb46 h
 iterate 2 refine Of 37 rfl rfl hb46 rfl ?_
 refine qu (Bv false) (Pf rfl hb46 rfl) (qa (Bv false) (qa (Bv false) (Wz ?_)))
 obtain rfl := oi h
 exact Tj ⟨lr, rfl, rfl, rfl, rfl, hs31_23, hs31_24, hs31_25⟩
 obtain ⟨x41, x42⟩ := j43
 rintro ρ43 M43 H43 ⟨hle43, rfl, hs43_4, hs43_5, hs43_6, hs43_23, hs43_24, hs43_25⟩
 obtain ⟨x47, hj48, h⟩ := bnd h
 refine Jf (fun (x47 : Bool) ρ' M' H' => M43.le M' ∧ c28 :: F = H' ∧ ρ' 23 = v30 ∧ ρ' 24 = (Iv ((bytesOf a0).length : Int)) ∧ ρ' 25 = (Iv x32) ∧ ρ' 54 = (Bv x47)) x47 ?_ ?_
 have h := hj48
 refine Cg (qM (Bv x41) hs43_5 (qu (Bv (!x41)) (PO.not rfl) (qm (Bv (!x41)) ?_)))
 rcases Bt (!x41) with hb49 | hb49
 have h := ite_t hb49 h
 refine On 43 rfl rfl hb49 (qM (Bv x42) hs43_6 (qo 43 hb49 (Bv (!x42)) (PO.not rfl) (qu (Bv (!x42)) (Pt rfl hb49 rfl) (qm (Bv (!x42)) ?_))))
 rcases Bt (!x42) with hb50 | hb50
 have h := ite_t hb50 h
 refine On 47 rfl rfl hb50 (qM (Yv (rd (bytesOf a0) x32)) hs43_4 (qo 47 hb50 (Bv (decide ((rd (bytesOf a0) x32) ≠ 46))) (PO.neq rfl rfl) (qu (Bv (decide ((rd (bytesOf a0) x32) ≠ 46))) (Pt rfl hb50 rfl) (qm (Bv (decide ((rd (bytesOf a0) x32) ≠ 46))) ?_))))
 rcases Bt (decide ((rd (bytesOf a0) x32) ≠ 46)) with hb51 | hb51
 have h := ite_t hb51 h
 refine On 51 rfl rfl hb51 (qM (Yv (rd (bytesOf a0) x32)) hs43_4 (qo 51 hb51 (Bv (decide ((rd (bytesOf a0) x32) ≠ 45))) (PO.neq rfl rfl) (qu (Bv (decide ((rd (bytesOf a0) x32) ≠ 45))) (Pt rfl hb51 rfl) (Wz ?_))))
 obtain rfl := oi h
 exact Tj ⟨lr, rfl, hs43_23, hs43_24, hs43_25, rfl⟩
 have h := ite_f hb51 h
 iterate 2 refine Of 51 rfl rfl hb51 rfl ?_
 refine qu (Bv false) (Pf rfl hb51 rfl) (Wz ?_)
 obtain rfl := oi h
 exact Tj ⟨lr, rfl, hs43_23, hs43_24, hs43_25, rfl⟩
 have h := ite_f hb50 h
 iterate 2 refine Of 47 rfl rfl hb50 rfl ?_
 refine qu (Bv false) (Pf rfl hb50 rfl) (qm (Bv false) ?_)
 iterate 2 refine Of 51 rfl rfl rfl rfl ?_
 refine qu (Bv false) (Pf rfl rfl rfl) (Wz ?_)
 obtain rfl := oi h
 exact Tj ⟨lr, rfl, hs43_23, hs43_24, hs43_25, rfl⟩
 have h := ite_f hb49 h
 iterate 2 refine Of 43 rfl rfl hb49 rfl ?_
 refine qu (Bv false) (Pf rfl hb49 rfl) (qm (Bv false) ?_)
 iterate 2 refine Of 47 rfl rfl rfl rfl ?_
 refine qu (Bv false) (Pf rfl rfl rfl) (qm (Bv false) ?_)
 iterate 2 refine Of 51 rfl rfl rfl rfl ?_
 refine qu (Bv false) (Pf rfl rfl rfl) (Wz ?_)
 obtain rfl := oi h
 exact Tj ⟨lr, rfl, hs43_23, hs43_24, hs43_25, rfl⟩
 rintro ρ48 M48 H48 ⟨hle48, rfl, hs48_23, hs48_24, hs48_25, hs48_54⟩
 refine Cd (b := x47) hs48_54 (fun hb52 => ?_) (fun hb52 => ?_)
 have h := ite_t hb52 h
 refine Sr (qa (Bv false) (Nt (Cr (Br (Tr (WQ.leaveR (Sum.inr ()) (oi h).symm (fun heq31 => ?_)))))))
 subst heq31
 have h := (elimR hK31)
 refine Br (Tr ?_)
 have h := KK.early h h327
 exact Dr (Rf h [] rfl (Rs rfl rfl) (((hle22.trans hle31).trans hle43).trans hle48) ⟨rfl, rfl⟩)
 have h := ite_f hb52 h
 exact Ck (Bn (Tc (Cg (qu (Iv (IntKind.i64.wrap (x32 + 1))) (PO.add hs48_25 rfl) (qm (Iv (IntKind.i64.wrap (x32 + 1))) (Wz (WQ.again (IntKind.i64.wrap (x32 + 1)) (oi h).symm ⟨((hle31.trans hle43).trans hle48), rfl, hs48_23, hs48_24, rfl⟩)))))))
 have h := ite_f hb33 h
 refine WC.exit (WQ.thenE (WQ.leaveE (Sum.inl ()) (oi h).symm (fun heq31 => ?_)))
 subst heq31
 have h := elimL hK31
 exact WQ.blockH (Dr (WQ.thenFE h ⟨hle31, rfl⟩))
 rintro _ ρ27 M27 H27 rfl ⟨hle27, rfl⟩
 have h := (Sum.elim_inl _ _ _).symm.trans h
 exact Sr (qa (Bv true) (Nt (Cr (Rf h [] rfl (Rs rfl rfl) (hle22.trans hle27) ⟨rfl, rfl⟩))))

noncomputable def f_record_text_116 (a0 : ByteArray) (a1 : Bool) : Option Bool :=
  (if (!a1) = true then (some (decide (a0 = (⟨#[]⟩ : ByteArray)))) else ((f_record_Name a0).bind fun r22 => (some r22)))
def f_record_text_116_post (a0 : ByteArray) (a1 : Bool) : Bool → Value → IM → HL → Prop :=
  fun (r0 : Bool) (v : Value) (M' : IM) (H' : HL) => (.bool r0) = v ∧ H' = []
theorem f_record_text_116_ok (a0 : ByteArray) (a1 : Bool) (M : IM) (res : Bool) (h : f_record_text_116 a0 a1 = some res) :
    Tri Tryz.prog 115 #[(Sv a0), (Bv a1), (.func (.func 116) #[] #[])] M [] (f_record_text_116_post a0 a1 res) := by
 unfold f_record_text_116 at h
 refine Te Tryz.func115 rfl rfl ?_
 intro F ρ hρ
 refine Sr (qa (Bv false) (Nt (Cs (Sr (qM (Bv a1) (hρ 1) (qu (Bv (!a1)) (PO.not rfl) (Nt (Cd (b := !a1) rfl (fun hb21 => ?_) (fun hb21 => ?_)))))))))
 have h := ite_t hb21 h
 exact Sr (qM (Sv a0) (hρ 0) (qu (Bv (decide (a0 = (⟨#[]⟩ : ByteArray)))) (PO.seql rfl rfl) (qa (Bv (decide (a0 = (⟨#[]⟩ : ByteArray)))) (Nt (Cr (Tr (Rf h [] rfl (Rs rfl rfl) lr ⟨rfl, rfl⟩)))))))
 have h := ite_f hb21 h
 refine Ck (Tc (Sr (qM (.func (.func 116) #[] #[]) (hρ 2) (qM (Sv a0) (hρ 0) ?_))))
 obtain ⟨r22, hr23, h⟩ := bnd h
 refine We (EO.callV0 (first := #[]) (cap := #[]) co116 rfl (f_record_Name_ok a0 _ r22 hr23) (argsV1 rfl rfl)) rfl ?_
 rintro _ M24 _ hle25 ⟨_, ⟨rfl, rfl⟩, rfl⟩
 exact WL.a0 (qa (Bv r22) (Nt (Cr (Rf h [] rfl (Rs rfl rfl) hle25 ⟨rfl, rfl⟩))))

noncomputable def f_record_Check_2 (a0 : ByteArray) : Option Bool :=
  (some (decide ((a0.size : Int) ≤ (256 : Int))))
def f_record_Check_2_post (a0 : ByteArray) : Bool → Value → IM → HL → Prop :=
  fun (r0 : Bool) (v : Value) (M' : IM) (H' : HL) => (.bool r0) = v ∧ H' = []
theorem f_record_Check_2_ok (a0 : ByteArray) (M : IM) (res : Bool) (h : f_record_Check_2 a0 = some res) :
    Tri Tryz.prog 113 #[(Sv a0)] M [] (f_record_Check_2_post a0 res) := by
 unfold f_record_Check_2 at h
 refine Te Tryz.func113 rfl rfl ?_
 intro F ρ hρ
 exact Sr (qa (Bv false) (Ns (qM (Sv a0) (hρ 0) (qu (Iv (a0.size : Int)) (PO.lenStr Tryz.underlying9 rfl) (qu (Bv (decide ((a0.size : Int) ≤ (256 : Int)))) (PO.leq rfl rfl) (qa (Bv (decide ((a0.size : Int) ≤ (256 : Int)))) (Nt (Cr (Rf h [] rfl (Rs rfl rfl) lr ⟨rfl, rfl⟩)))))))))

noncomputable def f_record_text_113 (a0 : ByteArray) (a1 : Bool) : Option Bool :=
  (if (!a1) = true then (some (decide (a0 = (⟨#[]⟩ : ByteArray)))) else ((f_record_Check_2 a0).bind fun r22 => (some r22)))
def f_record_text_113_post (a0 : ByteArray) (a1 : Bool) : Bool → Value → IM → HL → Prop :=
  fun (r0 : Bool) (v : Value) (M' : IM) (H' : HL) => (.bool r0) = v ∧ H' = []
theorem f_record_text_113_ok (a0 : ByteArray) (a1 : Bool) (M : IM) (res : Bool) (h : f_record_text_113 a0 a1 = some res) :
    Tri Tryz.prog 115 #[(Sv a0), (Bv a1), (.func (.func 113) #[] #[])] M [] (f_record_text_113_post a0 a1 res) := by
 unfold f_record_text_113 at h
 refine Te Tryz.func115 rfl rfl ?_
 intro F ρ hρ
 refine Sr (qa (Bv false) (Nt (Cs (Sr (qM (Bv a1) (hρ 1) (qu (Bv (!a1)) (PO.not rfl) (Nt (Cd (b := !a1) rfl (fun hb21 => ?_) (fun hb21 => ?_)))))))))
 have h := ite_t hb21 h
 exact Sr (qM (Sv a0) (hρ 0) (qu (Bv (decide (a0 = (⟨#[]⟩ : ByteArray)))) (PO.seql rfl rfl) (qa (Bv (decide (a0 = (⟨#[]⟩ : ByteArray)))) (Nt (Cr (Tr (Rf h [] rfl (Rs rfl rfl) lr ⟨rfl, rfl⟩)))))))
 have h := ite_f hb21 h
 refine Ck (Tc (Sr (qM (.func (.func 113) #[] #[]) (hρ 2) (qM (Sv a0) (hρ 0) ?_))))
 obtain ⟨r22, hr23, h⟩ := bnd h
 refine We (EO.callV0 (first := #[]) (cap := #[]) co113 rfl (f_record_Check_2_ok a0 _ r22 hr23) (argsV1 rfl rfl)) rfl ?_
 rintro _ M24 _ hle25 ⟨_, ⟨rfl, rfl⟩, rfl⟩
 exact WL.a0 (qa (Bv r22) (Nt (Cr (Rf h [] rfl (Rs rfl rfl) hle25 ⟨rfl, rfl⟩))))


end Go.Proofs.YtkflneabcannnaaGreatDoor.G
