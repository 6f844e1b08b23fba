/- Go functions: what they come to, and that they do. Printed by a program of the session (gen). -/
import Derived.Test.YtkflneabcannnaaGreatDoorBF
import Derived.Test.YtkflneabcannnaaGreatDoorKConv
import Derived.Test.YtkflneabcannnaaGreatDoorKShar2
import Derived.Test.YtkflneabcannnaaGreatDoorKTight
set_option linter.unusedVariables false
set_option linter.unusedSimpArgs false
set_option maxHeartbeats 8000000
set_option maxRecDepth 100000
namespace Go.Proofs.YtkflneabcannnaaGreatDoor.G
open Go Go.KK

noncomputable def f_ref05_Short (a0 : T_api_Record) : Option Bool :=
  (((if (decide ((a0.Name.size : Int) ≤ (400 : Int))) = true then (if (decide ((a0.Key.size : Int) ≤ (400 : Int))) = true then (if (decide ((a0.Value.size : Int) ≤ (400 : Int))) = true then (some (decide ((a0.Rack.size : Int) ≤ (400 : Int)))) else (some false)) else (some false)) else (some false)) : Option Bool).bind fun (x22 : Bool) => (((if x22 = true then (if (decide ((a0.Ids.length : Int) ≤ (60 : Int))) = true then (if (decide ((a0.Isr.length : Int) ≤ (60 : Int))) = true then (if (decide ((a0.Add.length : Int) ≤ (60 : Int))) = true then (some (decide ((a0.Drop.length : Int) ≤ (60 : Int)))) else (some false)) else (some false)) else (some false)) else (some false)) : Option Bool).bind fun (x27 : Bool) => (some x27)))
def f_ref05_Short_post (a0 : T_api_Record) (v0_14 v0_15 v0_16 v0_17 : Value) : Bool → Value → IM → HL → Prop :=
  fun (r0 : Bool) (v : Value) (M' : IM) (H' : HL) => (.bool r0) = v ∧ H' = []
theorem f_ref05_Short_ok (a0 : T_api_Record) (M : IM) (v0_14 v0_15 v0_16 v0_17 : Value) (h0_14 : RS (Kd.int .i64) M v0_14 a0.Ids) (h0_15 : RS (Kd.int .i64) M v0_15 a0.Isr) (h0_16 : RS (Kd.int .i64) M v0_16 a0.Add) (h0_17 : RS (Kd.int .i64) M v0_17 a0.Drop) (res : Bool) (h : f_ref05_Short a0 = some res) :
    Tri Tryz.prog 64 #[(a58_ a0 v0_14 v0_15 v0_16 v0_17)] M [] (f_ref05_Short_post a0 v0_14 v0_15 v0_16 v0_17 res) := by
 unfold f_ref05_Short at h
 refine Te Tryz.func64 rfl rfl ?_
 intro F ρ hρ
 refine Sr (We (EO.box (cs := (l58 a0 v0_14 v0_15 v0_16 v0_17).toArray) (congrArg Value.cells (asE (a58_ a0 v0_14 v0_15 v0_16 v0_17) (hρ 0)))) rfl ?_)
 rintro _ _ _ - ⟨rfl, g21, rfl, rfl⟩
 refine Pa (Bv false) rfl rfl (Nt ?_)
 obtain ⟨x22, hj23, h⟩ := bnd h
 refine Jf (fun (x22 : Bool) ρ' M' H' => M.le M' ∧ [(g21, .cells (l58 a0 v0_14 v0_15 v0_16 v0_17).toArray 58 (0, 0))] :: F = H' ∧ ρ' 1 = (pt g21 0) ∧ ρ' 3 = (Bv x22)) x22 ?_ ?_
 have h323 := h
 have h := hj23
 refine Cg (Pu (pt g21 10) (Fa fo58_10 rfl rfl) rfl (Pu (Sv a0.Name) (Lb 0 pl9 rfl rfl rfl) rfl (Pu (Iv (a0.Name.size : Int)) (PO.lenStr Tryz.underlying9 rfl) rfl (Pu (Bv (decide ((a0.Name.size : Int) ≤ (400 : Int)))) (PO.leq rfl rfl) rfl (Pm (Bv (decide ((a0.Name.size : Int) ≤ (400 : Int)))) rfl rfl ?_)))))
 rcases Bt (decide ((a0.Name.size : Int) ≤ (400 : Int))) with hb24 | hb24
 have h := ite_t hb24 h
 refine On 8 rfl rfl hb24 (Pu (pt g21 11) (Fa fo58_11 rfl rfl) rfl (On 8 rfl rfl hb24 (Pu (Sv a0.Key) (Lb 0 pl9 rfl rfl rfl) rfl (On 8 rfl rfl hb24 (Pu (Iv (a0.Key.size : Int)) (PO.lenStr Tryz.underlying9 rfl) rfl (On 8 rfl rfl hb24 (Pu (Bv (decide ((a0.Key.size : Int) ≤ (400 : Int)))) (PO.leq rfl rfl) rfl (Pu (Bv (decide ((a0.Key.size : Int) ≤ (400 : Int)))) (Pt rfl hb24 rfl) rfl (Pm (Bv (decide ((a0.Key.size : Int) ≤ (400 : Int)))) rfl rfl ?_)))))))))
 rcases Bt (decide ((a0.Key.size : Int) ≤ (400 : Int))) with hb25 | hb25
 have h := ite_t hb25 h
 refine On 14 rfl rfl hb25 (Pu (pt g21 12) (Fa fo58_12 rfl rfl) rfl (On 14 rfl rfl hb25 (Pu (Sv a0.Value) (Lb 0 pl9 rfl rfl rfl) rfl (On 14 rfl rfl hb25 (Pu (Iv (a0.Value.size : Int)) (PO.lenStr Tryz.underlying9 rfl) rfl (On 14 rfl rfl hb25 (Pu (Bv (decide ((a0.Value.size : Int) ≤ (400 : Int)))) (PO.leq rfl rfl) rfl (Pu (Bv (decide ((a0.Value.size : Int) ≤ (400 : Int)))) (Pt rfl hb25 rfl) rfl (Pm (Bv (decide ((a0.Value.size : Int) ≤ (400 : Int)))) rfl rfl ?_)))))))))
 rcases Bt (decide ((a0.Value.size : Int) ≤ (400 : Int))) with hb26 | hb26
 have h := ite_t hb26 h
 refine On 20 rfl rfl hb26 (Pu (pt g21 13) (Fa fo58_13 rfl rfl) rfl (On 20 rfl rfl hb26 (Pu (Sv a0.Rack) (Lb 0 pl9 rfl rfl rfl) rfl (On 20 rfl rfl hb26 (Pu (Iv (a0.Rack.size : Int)) (PO.lenStr Tryz.underlying9 rfl) rfl (On 20 rfl rfl hb26 (Pu (Bv (decide ((a0.Rack.size : Int) ≤ (400 : Int)))) (PO.leq rfl rfl) rfl (Pu (Bv (decide ((a0.Rack.size : Int) ≤ (400 : Int)))) (Pt rfl hb26 rfl) rfl (Pa (Bv (decide ((a0.Rack.size : Int) ≤ (400 : Int)))) rfl rfl (Wz ?_))))))))))
 obtain rfl := oi h
 exact Tj ⟨lr, rfl, rfl, rfl⟩
 have h := ite_f hb26 h
 iterate 4 refine Of 20 rfl rfl hb26 rfl ?_
 refine Pu (Bv false) (Pf rfl hb26 rfl) rfl (Pa (Bv false) rfl rfl (Wz ?_))
 obtain rfl := oi h
 exact Tj ⟨lr, rfl, rfl, rfl⟩
 have h := ite_f hb25 h
 iterate 4 refine Of 14 rfl rfl hb25 rfl ?_
 refine Pu (Bv false) (Pf rfl hb25 rfl) rfl (Pm (Bv false) rfl rfl ?_)
 iterate 4 refine Of 20 rfl rfl rfl rfl ?_
 refine Pu (Bv false) (Pf rfl rfl rfl) rfl (Pa (Bv false) rfl rfl (Wz ?_))
 obtain rfl := oi h
 exact Tj ⟨lr, rfl, rfl, rfl⟩
 have h := ite_f hb24 h
 iterate 4 refine Of 8 rfl rfl hb24 rfl ?_
 refine Pu (Bv false) (Pf rfl hb24 rfl) rfl (Pm (Bv false) rfl rfl ?_)
 iterate 4 refine Of 14 rfl rfl rfl rfl ?_
 refine Pu (Bv false) (Pf rfl rfl rfl) rfl (Pm (Bv false) rfl rfl ?_)
 iterate 4 refine Of 20 rfl rfl rfl rfl ?_
 refine Pu (Bv false) (Pf rfl rfl rfl) rfl (Pa (Bv false) rfl rfl (Wz ?_))
 obtain rfl := oi h
 exact Tj ⟨lr, rfl, rfl, rfl⟩
 rintro ρ23 M23 H23 ⟨hle23, rfl, hs23_1, hs23_3⟩
 obtain ⟨x27, hj28, h⟩ := bnd h
 refine Jf (fun (x27 : Bool) ρ' M' H' => M23.le M' ∧ [(g21, .cells (l58 a0 v0_14 v0_15 v0_16 v0_17).toArray 58 (0, 0))] :: F = H' ∧ ρ' 2 = (Bv x27)) x27 ?_ ?_
 have h328 := h
 have h := hj28
 refine Cg (Pm (Bv x22) hs23_3 rfl (Pm (Bv x22) rfl rfl ?_))
 rcases Bt (x22) with hb29 | hb29
 have h := ite_t hb29 h
 refine On 27 rfl rfl hb29 (Pu (pt g21 14) (Fa fo58_14 hs23_1 rfl) rfl (On 27 rfl rfl hb29 (Pu v0_14 (Lb 0 pl56 rfl rfl rfl) rfl (On 27 rfl rfl hb29 ?_))))
 have h0_14 := h0_14.mono hle23
 refine Pu (Iv (a0.Ids.length : Int)) (PO.lenS Tryz.underlying56 rfl h0_14.len) rfl (On 27 rfl rfl hb29 (Pu (Bv (decide ((a0.Ids.length : Int) ≤ (60 : Int)))) (PO.leq rfl rfl) rfl (Pu (Bv (decide ((a0.Ids.length : Int) ≤ (60 : Int)))) (Pt rfl hb29 rfl) rfl (Pm (Bv (decide ((a0.Ids.length : Int) ≤ (60 : Int)))) rfl rfl ?_))))
 rcases Bt (decide ((a0.Ids.length : Int) ≤ (60 : Int))) with hb30 | hb30
 have h := ite_t hb30 h
 refine On 33 rfl rfl hb30 (Pu (pt g21 15) (Fa fo58_15 hs23_1 rfl) rfl (On 33 rfl rfl hb30 (Pu v0_15 (Lb 0 pl56 rfl rfl rfl) rfl (On 33 rfl rfl hb30 ?_))))
 have h0_15 := h0_15.mono hle23
 refine Pu (Iv (a0.Isr.length : Int)) (PO.lenS Tryz.underlying56 rfl h0_15.len) rfl (On 33 rfl rfl hb30 (Pu (Bv (decide ((a0.Isr.length : Int) ≤ (60 : Int)))) (PO.leq rfl rfl) rfl (Pu (Bv (decide ((a0.Isr.length : Int) ≤ (60 : Int)))) (Pt rfl hb30 rfl) rfl (Pm (Bv (decide ((a0.Isr.length : Int) ≤ (60 : Int)))) rfl rfl ?_))))
 rcases Bt (decide ((a0.Isr.length : Int) ≤ (60 : Int))) with hb31 | hb31
 have h := ite_t hb31 h
 refine On 39 rfl rfl hb31 (Pu (pt g21 16) (Fa fo58_16 hs23_1 rfl) rfl (On 39 rfl rfl hb31 (Pu v0_16 (Lb 0 pl56 rfl rfl rfl) rfl (On 39 rfl rfl hb31 ?_))))
 have h0_16 := h0_16.mono hle23
 refine Pu (Iv (a0.Add.length : Int)) (PO.lenS Tryz.underlying56 rfl h0_16.len) rfl (On 39 rfl rfl hb31 (Pu (Bv (decide ((a0.Add.length : Int) ≤ (60 : Int)))) (PO.leq rfl rfl) rfl (Pu (Bv (decide ((a0.Add.length : Int) ≤ (60 : Int)))) (Pt rfl hb31 rfl) rfl (Pm (Bv (decide ((a0.Add.length : Int) ≤ (60 : Int)))) rfl rfl ?_))))
 rcases Bt (decide ((a0.Add.length : Int) ≤ (60 : Int))) with hb32 | hb32
 have h := ite_t hb32 h
 refine On 45 rfl rfl hb32 (Pu (pt g21 17) (Fa fo58_17 hs23_1 rfl) rfl (On 45 rfl rfl hb32 (Pu v0_17 (Lb 0 pl56 rfl rfl rfl) rfl (On 45 rfl rfl hb32 ?_))))
 have h0_17 := h0_17.mono hle23
 refine Pu (Iv (a0.Drop.length : Int)) (PO.lenS Tryz.underlying56 rfl h0_17.len) rfl (On 45 rfl rfl hb32 (Pu (Bv (decide ((a0.Drop.length : Int) ≤ (60 : Int)))) (PO.leq rfl rfl) rfl (Pu (Bv (decide ((a0.Drop.length : Int) ≤ (60 : Int)))) (Pt rfl hb32 rfl) rfl (Pa (Bv (decide ((a0.Drop.length : Int) ≤ (60 : Int)))) rfl rfl (Wz ?_)))))
 obtain rfl := oi h
 exact Tj ⟨lr, rfl, rfl⟩
 have h := ite_f hb32 h
 iterate 4 refine Of 45 rfl rfl hb32 rfl ?_
 refine Pu (Bv false) (Pf rfl hb32 rfl) rfl (Pa (Bv false) rfl rfl (Wz ?_))
 obtain rfl := oi h
 exact Tj ⟨lr, rfl, rfl⟩
 have h := ite_f hb31 h
 iterate 4 refine Of 39 rfl rfl hb31 rfl ?_
 refine Pu (Bv false) (Pf rfl hb31 rfl) rfl (Pm (Bv false) rfl rfl ?_)
 iterate 4 refine Of 45 rfl rfl rfl rfl ?_
 refine Pu (Bv false) (Pf rfl rfl rfl) rfl (Pa (Bv false) rfl rfl (Wz ?_))
 obtain rfl := oi h
 exact Tj ⟨lr, rfl, rfl⟩
 have h := ite_f hb30 h
 iterate 4 refine Of 33 rfl rfl hb30 rfl ?_
 refine Pu (Bv false) (Pf rfl hb30 rfl) rfl (Pm (Bv false) rfl rfl ?_)
 iterate 4 refine Of 39 rfl rfl rfl rfl ?_
 refine Pu (Bv false) (Pf rfl rfl rfl) rfl (Pm (Bv false) rfl rfl ?_)
 iterate 4 refine Of 45 rfl rfl rfl rfl ?_
 refine Pu (Bv false) (Pf rfl rfl rfl) rfl (Pa (Bv false) rfl rfl (Wz ?_))
 obtain rfl := oi h
 exact Tj ⟨lr, rfl, rfl⟩
 have h := ite_f hb29 h
 iterate 4 refine Of 27 rfl rfl hb29 rfl ?_
 refine Pu (Bv false) (Pf rfl hb29 rfl) rfl (Pm (Bv false) rfl rfl ?_)
 iterate 4 refine Of 33 rfl rfl rfl rfl ?_
 refine Pu (Bv false) (Pf rfl rfl rfl) rfl (Pm (Bv false) rfl rfl ?_)
 iterate 4 refine Of 39 rfl rfl rfl rfl ?_
 refine Pu (Bv false) (Pf rfl rfl rfl) rfl (Pm (Bv false) rfl rfl ?_)
 iterate 4 refine Of 45 rfl rfl rfl rfl ?_
 refine Pu (Bv false) (Pf rfl rfl rfl) rfl (Pa (Bv false) rfl rfl (Wz ?_))
 obtain rfl := oi h
 exact Tj ⟨lr, rfl, rfl⟩
 rintro ρ28 M28 H28 ⟨hle28, rfl, hs28_2⟩
 exact Cr (Dr (Rf h [] rfl (Rs rfl hs28_2) (hle23.trans hle28) ⟨rfl, rfl⟩))

noncomputable def f_ref06_Short_l0 (a0 : (List T_api_Record)) (s_ : Int) : Option (Int ⊕ (Unit ⊕ Unit)) :=
  match s_ with
  | x24 =>
    (if (decide (x24 < (a0.length : Int))) = true then (grd (0 ≤ x24 ∧ x24 < a0.length) ((f_ref05_Short (rd a0 x24)).bind fun (r33 : Bool) => (if (!r33) = true then (some (Sum.inr (Sum.inr ()))) else (some (Sum.inl (IntKind.i64.wrap (x24 + (1 : Int)))))))) else (some (Sum.inr (Sum.inl ()))))
noncomputable def f_ref06_Short (a0 : (List T_api_Record)) : Option Bool :=
  (if (decide ((80 : Int) < (a0.length : Int))) = true then (some false) else ((((iter (f_ref06_Short_l0 a0) (0 : Int)).bind (Sum.elim (fun _ => (some (Sum.inl ()))) (fun _ => (((some false)).bind fun r => some (Sum.inr r))))) : Option (Unit ⊕ Bool)).bind (Sum.elim (fun _ => (some true)) some)))
def f_ref06_Short_post (a0 : (List T_api_Record)) (v0 : Value) : Bool → Value → IM → HL → Prop :=
  fun (r0 : Bool) (v : Value) (M' : IM) (H' : HL) => (.bool r0) = v ∧ H' = []
theorem f_ref06_Short_ok (a0 : (List T_api_Record)) (M : IM) (v0 : Value) (h0 : RS kd_api_Record M v0 a0) (res : Bool) (h : f_ref06_Short a0 = some res) :
    Tri Tryz.prog 21 #[v0] M [] (f_ref06_Short_post a0 v0 res) := by
 unfold f_ref06_Short at h
 refine Te Tryz.func21 rfl rfl ?_
 intro F ρ hρ
 refine Sr (Pa (Bv false) rfl rfl (Nt (Cs (Sr (Pm v0 (hρ 0) rfl (Pu (Iv (a0.length : Int)) (PO.lenS Tryz.underlying53 rfl h0.len) rfl (Pu (Bv (decide ((80 : Int) < (a0.length : Int)))) (PO.gtr rfl rfl) rfl (Nt (Cd (b := decide ((80 : Int) < (a0.length : Int))) rfl (fun hb21 => ?_) (fun hb21 => ?_))))))))))
 have h := ite_t hb21 h
 exact Sr (Pa (Bv false) rfl rfl (Nt (Cr (Tr (Rf h [] rfl (Rs rfl rfl) lr ⟨rfl, rfl⟩)))))
 have h := ite_f hb21 h
 refine Ck (Tc ?_)
 obtain ⟨j22, hj22, h⟩ := bnd h
 refine WC.joinE (fun (_ : Unit) ρ' M' H' => M.le M' ∧ F = H') j22 ?_ ?_
 have h322 := h
 have h := hj22
 refine Sr (Pa (Iv 0) rfl rfl (Nt (Bk ?_)))
 obtain ⟨e23, he23, hK23⟩ := bnd h
 clear h
 refine WC.loop he23 (fun (x24 : Int) ρ' M' H' => M.le M' ∧ F = H' ∧ ρ' 0 = v0 ∧ ρ' 3 = (Iv x24)) ?_ ?_
 exact ⟨lr, rfl, (hρ 0), rfl⟩
 rintro x24 o23 ρ23 M23 H23 h ⟨hle23, rfl, hs23_0, hs23_3⟩
 unfold f_ref06_Short_l0 at h
 refine Cs (Sr (Pm (Iv x24) hs23_3 rfl (Pm v0 hs23_0 rfl ?_)))
 have h0 := h0.mono hle23
 refine Pu (Iv (a0.length : Int)) (PO.lenS Tryz.underlying53 rfl h0.len) rfl (Pu (Bv (decide (x24 < (a0.length : Int)))) (PO.lss rfl rfl) rfl (Nt (Cd (b := decide (x24 < (a0.length : Int))) rfl (fun hb25 => ?_) (fun hb25 => ?_))))
 have h := ite_t hb25 h
 refine Ck (Tc (Cs (Bk (Sr (Pm v0 hs23_0 rfl (Pm (Iv x24) hs23_3 rfl ?_))))))
 obtain ⟨hg26, h⟩ := grd_i h
 obtain ⟨p27, cs28, hat29, hrc30, hhas31⟩ := h0.at hg26.1 hg26.2 (by decide)
 obtain ⟨vw32_14, vw32_15, vw32_16, vw32_17, rfl, hw32_14, hw32_15, hw32_16, hw32_17⟩ := kd_api_Record_open hrc30
 refine Pu (.pointer (some p27)) (PO.indexAddr (n := a0.length) Tryz.underlying53 sz58 rfl rfl hg26.1 hg26.2 hat29) rfl (Pu (a58_ (rd a0 x24) vw32_14 vw32_15 vw32_16 vw32_17) (PO.loadMA (cs := (l58 (rd a0 x24) vw32_14 vw32_15 vw32_16 vw32_17)) ag58 sz58 rfl hhas31) rfl ?_)
 obtain ⟨r33, hr34, h⟩ := bnd h
 refine We (Ca co64 (f_ref05_Short_ok (rd a0 x24) _ _ _ _ _ hw32_14 hw32_15 hw32_16 hw32_17 r33 hr34) (args1 rfl)) rfl ?_
 rintro _ M35 _ hle36 ⟨_, ⟨rfl, rfl⟩, rfl⟩
 refine WL.a0 (Pu (Bv (!r33)) (PO.not rfl) rfl (Nt (Cd (b := !r33) rfl (fun hb38 => ?_) (fun hb38 => ?_))))
 have h := ite_t hb38 h
 refine Sr (Pa (Bv false) rfl rfl (Nt (Cr (Br (Tr (WQ.leaveR (Sum.inr ()) (oi h).symm (fun heq23 => ?_)))))))
 subst heq23
 have h := (elimR hK23)
 refine Br (Tr ?_)
 have h := KK.early h h322
 exact Rf h [] rfl (Rs rfl rfl) (hle23.trans hle36) ⟨rfl, rfl⟩
 have h := ite_f hb38 h
 exact Ck (Bn (Tc (Cg (Pm (Iv x24) hs23_3 rfl (Pu (Iv (IntKind.i64.wrap (x24 + 1))) (PO.add rfl rfl) rfl (Pa (Iv (IntKind.i64.wrap (x24 + 1))) rfl rfl (Wz (WQ.again (IntKind.i64.wrap (x24 + 1)) (oi h).symm ⟨(hle23.trans hle36), rfl, hs23_0, rfl⟩))))))))
 have h := ite_f hb25 h
 refine WC.exit (WQ.thenE (WQ.leaveE (Sum.inl ()) (oi h).symm (fun heq23 => ?_)))
 subst heq23
 have h := elimL hK23
 exact WQ.blockH (WQ.thenFE h ⟨hle23, rfl⟩)
 rintro _ ρ22 M22 H22 rfl ⟨hle22, rfl⟩
 have h := (Sum.elim_inl _ _ _).symm.trans h
 exact Sr (Pa (Bv true) rfl rfl (Nt (Cr (Rf h [] rfl (Rs rfl rfl) hle22 ⟨rfl, rfl⟩))))

noncomputable def f_ref07_Short_l0 (a0 : T_api_Rpc) (s_ : Int) : Option (Int ⊕ (Unit ⊕ Unit)) :=
  match s_ with
  | x28 =>
    (if (decide (x28 < (a0.Batches.length : Int))) = true then (grd (0 ≤ x28 ∧ x28 < a0.Batches.length) ((f_ref06_Short ((rd a0.Batches x28).Records)).bind fun (r37 : Bool) => (if (!r37) = true then (some (Sum.inr (Sum.inr ()))) else (some (Sum.inl (IntKind.i64.wrap (x28 + (1 : Int)))))))) else (some (Sum.inr (Sum.inl ()))))
noncomputable def f_ref07_Short (a0 : T_api_Rpc) : Option Bool :=
  (((if (decide ((800 : Int) < (a0.Data.length : Int))) = true then (some true) else (some (decide ((12 : Int) < (a0.Batches.length : Int))))) : Option Bool).bind fun (x22 : Bool) => (if x22 = true then (some false) else ((((iter (f_ref07_Short_l0 a0) (0 : Int)).bind (Sum.elim (fun _ => (some (Sum.inl ()))) (fun _ => (((some false)).bind fun r => some (Sum.inr r))))) : Option (Unit ⊕ Bool)).bind (Sum.elim (fun _ => (some true)) some))))
def f_ref07_Short_post (a0 : T_api_Rpc) (v0_11 v0_14 : Value) : Bool → Value → IM → HL → Prop :=
  fun (r0 : Bool) (v : Value) (M' : IM) (H' : HL) => (.bool r0) = v ∧ H' = []
theorem f_ref07_Short_ok (a0 : T_api_Rpc) (M : IM) (v0_11 v0_14 : Value) (h0_11 : RS kd_api_Batch M v0_11 a0.Batches) (h0_14 : RS (Kd.int .u8) M v0_14 a0.Data) (res : Bool) (h : f_ref07_Short a0 = some res) :
    Tri Tryz.prog 8 #[(a25_ a0 v0_11 v0_14)] M [] (f_ref07_Short_post a0 v0_11 v0_14 res) := by
 unfold f_ref07_Short at h
 refine Te Tryz.func8 rfl rfl ?_
 intro F ρ hρ
 refine Sr (We (EO.box (cs := (l25 a0 v0_11 v0_14).toArray) (congrArg Value.cells (asE (a25_ a0 v0_11 v0_14) (hρ 0)))) rfl ?_)
 rintro _ _ _ - ⟨rfl, g21, rfl, rfl⟩
 refine Pa (Bv false) rfl rfl (Nt (Cs ?_))
 obtain ⟨x22, hj23, h⟩ := bnd h
 refine Jf (fun (x22 : Bool) ρ' M' H' => M.le M' ∧ [(g21, .cells (l25 a0 v0_11 v0_14).toArray 25 (0, 0))] :: F = H' ∧ ρ' 1 = (pt g21 0) ∧ ρ' 13 = (Bv x22)) x22 ?_ ?_
 have h323 := h
 have h := hj23
 refine Cg (Pu (pt g21 14) (Fa fo25_14 rfl rfl) rfl (Pu v0_14 (Lb 0 pl23 rfl rfl rfl) rfl (Pu (Iv (a0.Data.length : Int)) (PO.lenS Tryz.underlying23 rfl h0_14.len) rfl (Pu (Bv (decide ((800 : Int) < (a0.Data.length : Int)))) (PO.gtr rfl rfl) rfl (Pm (Bv (decide ((800 : Int) < (a0.Data.length : Int)))) rfl rfl ?_)))))
 rcases Bt (decide ((800 : Int) < (a0.Data.length : Int))) with hb24 | hb24
 have h := ite_t hb24 h
 iterate 4 refine Of 8 rfl rfl hb24 rfl ?_
 refine Pu (Bv true) (Pt rfl hb24 rfl) rfl (Wz ?_)
 obtain rfl := oi h
 exact Tj ⟨lr, rfl, rfl, rfl⟩
 have h := ite_f hb24 h
 refine On 8 rfl rfl hb24 (Pu (pt g21 11) (Fa fo25_11 rfl rfl) rfl (On 8 rfl rfl hb24 (Pu v0_11 (Lb 0 pl22 rfl rfl rfl) rfl (On 8 rfl rfl hb24 (Pu (Iv (a0.Batches.length : Int)) (PO.lenS Tryz.underlying22 rfl h0_11.len) rfl (On 8 rfl rfl hb24 (Pu (Bv (decide ((12 : Int) < (a0.Batches.length : Int)))) (PO.gtr rfl rfl) rfl (Pu (Bv (decide ((12 : Int) < (a0.Batches.length : Int)))) (Pf rfl hb24 rfl) rfl (Wz ?_)))))))))
 obtain rfl := oi h
 exact Tj ⟨lr, rfl, rfl, rfl⟩
 rintro ρ23 M23 H23 ⟨hle23, rfl, hs23_1, hs23_13⟩
 refine Cd (b := x22) hs23_13 (fun hb25 => ?_) (fun hb25 => ?_)
 have h := ite_t hb25 h
 exact Sr (Pa (Bv false) rfl rfl (Nt (Cr (Tr (Dr (Rf h [] rfl (Rs rfl rfl) hle23 ⟨rfl, rfl⟩))))))
 have h := ite_f hb25 h
 refine Ck (Tc ?_)
 obtain ⟨j26, hj26, h⟩ := bnd h
 refine WC.joinE (fun (_ : Unit) ρ' M' H' => M23.le M' ∧ [(g21, .cells (l25 a0 v0_11 v0_14).toArray 25 (0, 0))] :: F = H') j26 ?_ ?_
 have h326 := h
 have h := hj26
 refine Sr (Pa (Iv 0) rfl rfl (Nt (Bk ?_)))
 obtain ⟨e27, he27, hK27⟩ := bnd h
 clear h
 refine WC.loop he27 (fun (x28 : Int) ρ' M' H' => M23.le M' ∧ [(g21, .cells (l25 a0 v0_11 v0_14).toArray 25 (0, 0))] :: F = H' ∧ ρ' 1 = (pt g21 0) ∧ ρ' 3 = (Iv x28)) ?_ ?_
 exact ⟨lr, rfl, hs23_1, rfl⟩
 rintro x28 o27 ρ27 M27 H27 h ⟨hle27, rfl, hs27_1, hs27_3⟩
 unfold f_ref07_Short_l0 at h
 refine Cs (Sr (Pm (Iv x28) hs27_3 rfl (Pu (pt g21 11) (Fa fo25_11 hs27_1 rfl) rfl (Pu v0_11 (Lb 0 pl22 rfl rfl rfl) rfl ?_))))
 have h0_11 := h0_11.mono (hle23.trans hle27)
 refine Pu (Iv (a0.Batches.length : Int)) (PO.lenS Tryz.underlying22 rfl h0_11.len) rfl (Pu (Bv (decide (x28 < (a0.Batches.length : Int)))) (PO.lss rfl rfl) rfl (Nt (Cd (b := decide (x28 < (a0.Batches.length : Int))) rfl (fun hb29 => ?_) (fun hb29 => ?_))))
 have h := ite_t hb29 h
 refine Ck (Tc (Cs (Bk (Sr (Pu (pt g21 11) (Fa fo25_11 hs27_1 rfl) rfl (Pu v0_11 (Lb 0 pl22 rfl rfl rfl) rfl (Pm (Iv x28) hs27_3 rfl ?_)))))))
 obtain ⟨hg30, h⟩ := grd_i h
 obtain ⟨p31, cs32, hat33, hrc34, hhas35⟩ := h0_11.at hg30.1 hg30.2 (by decide)
 obtain ⟨vw36_2, rfl, hw36_2⟩ := kd_api_Batch_open hrc34
 refine Pu (.pointer (some p31)) (PO.indexAddr (n := a0.Batches.length) Tryz.underlying22 sz55 rfl rfl hg30.1 hg30.2 hat33) rfl (Pu (.pointer (some (p31.add 2))) (Fa fo55_2 rfl rfl) rfl (Pu vw36_2 (PO.loadM pl53 rfl (hhas35 2 _ rfl)) rfl ?_))
 obtain ⟨r37, hr38, h⟩ := bnd h
 refine We (Ca co21 (f_ref06_Short_ok ((rd a0.Batches x28).Records) _ _ hw36_2 r37 hr38) (args1 rfl)) rfl ?_
 rintro _ M39 _ hle40 ⟨_, ⟨rfl, rfl⟩, rfl⟩
 refine WL.a0 (Pu (Bv (!r37)) (PO.not rfl) rfl (Nt (Cd (b := !r37) rfl (fun hb42 => ?_) (fun hb42 => ?_))))
 have h := ite_t hb42 h
 refine Sr (Pa (Bv false) rfl rfl (Nt (Cr (Br (Tr (WQ.leaveR (Sum.inr ()) (oi h).symm (fun heq27 => ?_)))))))
 subst heq27
 have h := (elimR hK27)
 refine Br (Tr ?_)
 have h := KK.early h h326
 exact Dr (Rf h [] rfl (Rs rfl rfl) ((hle23.trans hle27).trans hle40) ⟨rfl, rfl⟩)
 have h := ite_f hb42 h
 exact Ck (Bn (Tc (Cg (Pm (Iv x28) hs27_3 rfl (Pu (Iv (IntKind.i64.wrap (x28 + 1))) (PO.add rfl rfl) rfl (Pa (Iv (IntKind.i64.wrap (x28 + 1))) rfl rfl (Wz (WQ.again (IntKind.i64.wrap (x28 + 1)) (oi h).symm ⟨(hle27.trans hle40), rfl, hs27_1, rfl⟩))))))))
 have h := ite_f hb29 h
 refine WC.exit (WQ.thenE (WQ.leaveE (Sum.inl ()) (oi h).symm (fun heq27 => ?_)))
 subst heq27
 have h := elimL hK27
 exact WQ.blockH (WQ.thenFE h ⟨hle27, rfl⟩)
 rintro _ ρ26 M26 H26 rfl ⟨hle26, rfl⟩
 have h := (Sum.elim_inl _ _ _).symm.trans h
 exact Sr (Pa (Bv true) rfl rfl (Nt (Cr (Dr (Rf h [] rfl (Rs rfl rfl) (hle23.trans hle26) ⟨rfl, rfl⟩)))))

noncomputable def f_fault_New (a0 : ByteArray) (a1 : Int) (a2 : Int) : Option GErr :=
  (some (GErr.fault a0 a1 (GErr.code a2)))
def f_fault_New_post (a0 : ByteArray) (a1 : Int) (a2 : Int) : GErr → Value → IM → HL → Prop :=
  fun (r0 : GErr) (v : Value) (M' : IM) (H' : HL) => (GV r0) = v ∧ H' = []
theorem f_fault_New_ok (a0 : ByteArray) (a1 : Int) (a2 : Int) (M : IM) (res : GErr) (h : f_fault_New a0 a1 a2 = some res) :
    Tri Tryz.prog 30 #[(Sv a0), (Iv a1), (Iv a2)] M [] (f_fault_New_post a0 a1 a2 res) := by
 unfold f_fault_New at h
 refine Te Tryz.func30 rfl rfl ?_
 intro F ρ hρ
 refine Sr (Pa (GV GErr.nil) rfl rfl (Ns (Pm (Sv a0) (hρ 0) rfl (Pm (Iv a1) (hρ 1) rfl (Pm (Iv a2) (hρ 2) rfl (Pu (GV (GErr.code a2)) (PO.makeInterface cc38 rfl) rfl (Pu (.agg #[(Sv a0), (Iv a1), (GV (GErr.code a2))]) (Bl (cl := [(Sv a0), (Iv a1), (GV (GErr.code a2))]) ze108 fp108 (Pc (Sv a0) rfl rfl (Pc (Iv a1) rfl rfl (Parts.cons ((congrArg Value.cells (show ev _ _ = (GV (GErr.code a2)) from rfl)).trans (GErr.val_cells _ _ _ _)) Pz))) rfl) rfl (Pu (GV (GErr.fault a0 a1 (GErr.code a2))) (PO.makeInterface cc108 rfl) rfl (Pa (GV (GErr.fault a0 a1 (GErr.code a2))) rfl rfl (Nt (Cr ?_)))))))))))
 exact Rf h [] rfl (Rs rfl rfl) lr ⟨rfl, rfl⟩

noncomputable def f_rpc_about (a0 : Int) : Option Int :=
  (((((if (decide (a0 = (8 : Int))) = true then (some (Sum.inl (orI .i64 (0 : Int) (416 : Int)))) else (((if (decide (a0 = (5 : Int))) = true then (some (decide (a0 = (5 : Int)))) else (some (decide (a0 = (6 : Int))))) : Option Bool).bind fun (x26 : Bool) => (if x26 = true then (some (Sum.inl (0 : Int))) else (if (decide (a0 = (4 : Int))) = true then (((some (orI .i64 (0 : Int) (116 : Int)))).bind fun r => some (Sum.inr r)) else (if (decide (a0 = (2 : Int))) = true then (((some (orI .i64 (0 : Int) (7 : Int)))).bind fun r => some (Sum.inr r)) else (if (decide (a0 = (1 : Int))) = true then (((some (orI .i64 (0 : Int) (1 : Int)))).bind fun r => some (Sum.inr r)) else (((some (0 : Int))).bind fun r => some (Sum.inr r)))))))) : Option (Int ⊕ Int)).bind (Sum.elim (fun (x23 : Int) => (some (orI .i64 x23 (4 : Int)))) some)) : Option Int).bind fun (x21 : Int) => (((((if (decide (a0 = (1 : Int))) = true then (some (decide (a0 = (1 : Int)))) else (if (decide (a0 = (3 : Int))) = true then (some (decide (a0 = (3 : Int)))) else (if (decide (a0 = (4 : Int))) = true then (some (decide (a0 = (4 : Int)))) else (if (decide (a0 = (7 : Int))) = true then (some (decide (a0 = (7 : Int)))) else (some (decide (a0 = (8 : Int)))))))) : Option Bool).bind fun (x35 : Bool) => (if x35 = true then (some (orI .i64 x21 (8 : Int))) else (some x21))) : Option Int).bind fun (x33 : Int) => (((if (decide (a0 = (7 : Int))) = true then (some (orI .i64 x33 (256 : Int))) else (some x33)) : Option Int).bind fun (x42 : Int) => (some x42))))
def f_rpc_about_post (a0 : Int) : Int → Value → IM → HL → Prop :=
  fun (r0 : Int) (v : Value) (M' : IM) (H' : HL) => (.int .i64 r0) = v ∧ H' = []
theorem f_rpc_about_ok (a0 : Int) (M : IM) (res : Int) (h : f_rpc_about a0 = some res) :
    Tri Tryz.prog 23 #[(Iv a0)] M [] (f_rpc_about_post a0 res) := by
 unfold f_rpc_about at h
 refine Te Tryz.func23 rfl rfl ?_
 intro F ρ hρ
 refine Sr (Pa (Iv 0) rfl rfl (Ns (Pa (Iv 0) rfl rfl (Nt ?_))))
 obtain ⟨x21, hj22, h⟩ := bnd h
 refine Jf (fun (x21 : Int) ρ' M' H' => M.le M' ∧ F = H' ∧ ρ' 0 = (Iv a0) ∧ ρ' 3 = (Iv x21)) x21 ?_ ?_
 have h322 := h
 have h := hj22
 refine Sr (Pm (Iv a0) (hρ 0) rfl (Nt (Bk (Cs (Bk (Cs (Bk (Cs (Bk ?_)))))))))
 obtain ⟨j24, hj24, h⟩ := bnd h
 refine WC.joinE (fun (x23 : Int) ρ' M' H' => M.le M' ∧ F = H' ∧ ρ' 0 = (Iv a0) ∧ ρ' 3 = (Iv x23)) j24 ?_ ?_
 have h324 := h
 have h := hj24
 refine Bk (Cs (Bk (Cs (Cs (Sr (Pu (Bv (decide (a0 = 8))) (PO.eql rfl rfl) rfl (Pa (Bv (decide (a0 = 8))) rfl rfl (Nt (Cd (b := decide (a0 = 8)) rfl (fun hb25 => ?_) (fun hb25 => ?_))))))))))
 have h := ite_t hb25 h
 refine WC.exit (WQ.thenE (WQ.thenE (WQ.blockH (Tc (Cg (Pm (Iv 0) rfl rfl (Pu (Iv (orI .i64 0 (416 : Int))) (PO.or rfl rfl) rfl (Pa (Iv (orI .i64 0 (416 : Int))) rfl rfl (Wz (Bn (WQ.thenFE h ?_)))))))))))
 exact ⟨lr, rfl, (hρ 0), rfl⟩
 have h := ite_f hb25 h
 refine Ck (Tc (Cs ?_))
 obtain ⟨x26, hj27, h⟩ := bnd h
 refine Jf (fun (x26 : Bool) ρ' M' H' => M.le M' ∧ F = H' ∧ ρ' 0 = (Iv a0) ∧ ρ' 3 = (Iv 0) ∧ ρ' 4 = (Iv a0) ∧ ρ' 7 = (Bv x26)) x26 ?_ ?_
 have h327 := h
 have h := hj27
 refine Sr (Pu (Bv (decide (a0 = 5))) (PO.eql rfl rfl) rfl (Pa (Bv (decide (a0 = 5))) rfl rfl (Nt (Cd (b := decide (a0 = 5)) rfl (fun hb28 => ?_) (fun hb28 => ?_)))))
 have h := ite_t hb28 h
 refine Ck ?_
 obtain rfl := oi h
 exact Tj ⟨lr, rfl, (hρ 0), rfl, rfl, rfl⟩
 have h := ite_f hb28 h
 refine Cg (Pu (Bv (decide (a0 = 6))) (PO.eql rfl rfl) rfl (Pa (Bv (decide (a0 = 6))) rfl rfl (Wz ?_)))
 obtain rfl := oi h
 exact Tj ⟨lr, rfl, (hρ 0), rfl, rfl, rfl⟩
 rintro ρ27 M27 H27 ⟨hle27, rfl, hs27_0, hs27_3, hs27_4, hs27_7⟩
 refine Cd (b := x26) hs27_7 (fun hb29 => ?_) (fun hb29 => ?_)
 have h := ite_t hb29 h
 exact WC.exit (WQ.thenE (WQ.thenE (WQ.blockM rfl (WQ.thenE (WQ.blockH (WQ.thenFE h ⟨hle27, rfl, hs27_0, hs27_3⟩))))))
 have h := ite_f hb29 h
 refine Ck (Tc (Cs (Sr (Pu (Bv (decide (a0 = 4))) (PO.eql hs27_4 rfl) rfl (Pa (Bv (decide (a0 = 4))) rfl rfl (Nt (Cd (b := decide (a0 = 4)) rfl (fun hb30 => ?_) (fun hb30 => ?_))))))))
 have h := ite_t hb30 h
 refine WC.exit (WQ.thenE (WQ.thenE (WQ.blockM rfl (WQ.thenE (WQ.blockM rfl (WQ.thenE ?_))))))
 have h := KK.early h h324
 refine WQ.blockH (Tc (Sr (Pm (Iv 0) hs27_3 rfl (Pu (Iv (orI .i64 0 (116 : Int))) (PO.or rfl rfl) rfl (Pa (Iv (orI .i64 0 (116 : Int))) rfl rfl (Nt (WC.exit (WQ.blockM rfl (WQ.thenE (WQ.blockM rfl (WQ.thenE ?_)))))))))))
 refine WQ.blockH ?_
 obtain rfl := oi h
 exact Tj ⟨hle27, rfl, hs27_0, rfl⟩
 have h := ite_f hb30 h
 refine Ck (Tc (Cs (Sr (Pu (Bv (decide (a0 = 2))) (PO.eql hs27_4 rfl) rfl (Pa (Bv (decide (a0 = 2))) rfl rfl (Nt (Cd (b := decide (a0 = 2)) rfl (fun hb31 => ?_) (fun hb31 => ?_))))))))
 have h := ite_t hb31 h
 refine WC.exit (WQ.thenE (WQ.thenE (WQ.blockM rfl (WQ.thenE (WQ.blockM rfl (WQ.thenE ?_))))))
 have h := KK.early h h324
 refine WQ.blockM rfl (WQ.thenE (WQ.blockH (Tc (Sr (Pm (Iv 0) hs27_3 rfl (Pu (Iv (orI .i64 0 (7 : Int))) (PO.or rfl rfl) rfl (Pa (Iv (orI .i64 0 (7 : Int))) rfl rfl (Nt (WC.exit (WQ.blockM rfl (WQ.thenE ?_)))))))))))
 refine WQ.blockH ?_
 obtain rfl := oi h
 exact Tj ⟨hle27, rfl, hs27_0, rfl⟩
 have h := ite_f hb31 h
 refine Ck (Tc (Sr (Pu (Bv (decide (a0 = 1))) (PO.eql hs27_4 rfl) rfl (Pa (Bv (decide (a0 = 1))) rfl rfl (Nt (Cd (b := decide (a0 = 1)) rfl (fun hb32 => ?_) (fun hb32 => ?_)))))))
 have h := ite_t hb32 h
 refine WC.exit (WQ.thenE (WQ.blockM rfl (WQ.thenE (WQ.blockM rfl (WQ.thenE ?_)))))
 have h := KK.early h h324
 refine WQ.blockM rfl (WQ.thenE (WQ.blockM rfl (WQ.thenE (WQ.blockH (Tc (Sr (Pm (Iv 0) hs27_3 rfl (Pu (Iv (orI .i64 0 (1 : Int))) (PO.or rfl rfl) rfl (Pa (Iv (orI .i64 0 (1 : Int))) rfl rfl (Nt (WC.exit ?_)))))))))))
 refine WQ.blockH ?_
 obtain rfl := oi h
 exact Tj ⟨hle27, rfl, hs27_0, rfl⟩
 have h := ite_f hb32 h
 refine Ck (Tc (WC.exit (WQ.blockM rfl (WQ.thenE (WQ.blockM rfl (WQ.thenE ?_))))))
 have h := KK.early h h324
 refine WQ.blockM rfl (WQ.thenE (WQ.blockM rfl (WQ.thenE (WQ.blockM rfl (WQ.thenE (WQ.blockH ?_))))))
 obtain rfl := oi h
 exact Tj ⟨hle27, rfl, hs27_0, hs27_3⟩
 rintro x23 ρ24 M24 H24 rfl ⟨hle24, rfl, hs24_0, hs24_3⟩
 have h := (Sum.elim_inl _ _ _).symm.trans h
 refine Sr (Pm (Iv x23) hs24_3 rfl (Pu (Iv (orI .i64 x23 (4 : Int))) (PO.or rfl rfl) rfl (Pa (Iv (orI .i64 x23 (4 : Int))) rfl rfl (Nt (WC.exit (WQ.blockM rfl (WQ.thenE (WQ.blockM rfl (WQ.thenE (WQ.blockM rfl (WQ.thenE ?_)))))))))))
 refine WQ.blockH ?_
 obtain rfl := oi h
 exact Tj ⟨hle24, rfl, hs24_0, rfl⟩
 rintro ρ22 M22 H22 ⟨hle22, rfl, hs22_0, hs22_3⟩
 obtain ⟨x33, hj34, h⟩ := bnd h
 refine Jf (fun (x33 : Int) ρ' M' H' => M22.le M' ∧ F = H' ∧ ρ' 0 = (Iv a0) ∧ ρ' 3 = (Iv x33)) x33 ?_ ?_
 have h334 := h
 have h := hj34
 refine Sr (Pm (Iv a0) hs22_0 rfl (Nt (Bk ?_)))
 obtain ⟨x35, hj36, h⟩ := bnd h
 refine Jf (fun (x35 : Bool) ρ' M' H' => M22.le M' ∧ F = H' ∧ ρ' 0 = (Iv a0) ∧ ρ' 3 = (Iv x21) ∧ ρ' 27 = (Bv x35)) x35 ?_ ?_
 have h336 := h
 have h := hj36
 refine Sr (Pu (Bv (decide (a0 = 1))) (PO.eql rfl rfl) rfl (Pa (Bv (decide (a0 = 1))) rfl rfl (Nt (Cd (b := decide (a0 = 1)) rfl (fun hb37 => ?_) (fun hb37 => ?_)))))
 have h := ite_t hb37 h
 refine Ck ?_
 obtain rfl := oi h
 exact Tj ⟨lr, rfl, hs22_0, hs22_3, rfl⟩
 have h := ite_f hb37 h
 refine Sr (Pu (Bv (decide (a0 = 3))) (PO.eql rfl rfl) rfl (Pa (Bv (decide (a0 = 3))) rfl rfl (Nt (Cd (b := decide (a0 = 3)) rfl (fun hb38 => ?_) (fun hb38 => ?_)))))
 have h := ite_t hb38 h
 refine Ck ?_
 obtain rfl := oi h
 exact Tj ⟨lr, rfl, hs22_0, hs22_3, rfl⟩
 have h := ite_f hb38 h
 refine Sr (Pu (Bv (decide (a0 = 4))) (PO.eql rfl rfl) rfl (Pa (Bv (decide (a0 = 4))) rfl rfl (Nt (Cd (b := decide (a0 = 4)) rfl (fun hb39 => ?_) (fun hb39 => ?_)))))
 have h := ite_t hb39 h
 refine Ck ?_
 obtain rfl := oi h
 exact Tj ⟨lr, rfl, hs22_0, hs22_3, rfl⟩
 have h := ite_f hb39 h
 refine Sr (Pu (Bv (decide (a0 = 7))) (PO.eql rfl rfl) rfl (Pa (Bv (decide (a0 = 7))) rfl rfl (Nt (Cd (b := decide (a0 = 7)) rfl (fun hb40 => ?_) (fun hb40 => ?_)))))
 have h := ite_t hb40 h
 refine Ck ?_
 obtain rfl := oi h
 exact Tj ⟨lr, rfl, hs22_0, hs22_3, rfl⟩
 have h := ite_f hb40 h
 refine Cg (Pu (Bv (decide (a0 = 8))) (PO.eql rfl rfl) rfl (Pa (Bv (decide (a0 = 8))) rfl rfl (Wz ?_)))
 obtain rfl := oi h
 exact Tj ⟨lr, rfl, hs22_0, hs22_3, rfl⟩
 rintro ρ36 M36 H36 ⟨hle36, rfl, hs36_0, hs36_3, hs36_27⟩
 refine Cd (b := x35) hs36_27 (fun hb41 => ?_) (fun hb41 => ?_)
 have h := ite_t hb41 h
 refine Cg (Pm (Iv x21) hs36_3 rfl (Pu (Iv (orI .i64 x21 (8 : Int))) (PO.or rfl rfl) rfl (Pa (Iv (orI .i64 x21 (8 : Int))) rfl rfl (Wz (Bn ?_)))))
 obtain rfl := oi h
 exact Tj ⟨hle36, rfl, hs36_0, rfl⟩
 have h := ite_f hb41 h
 refine Ck (Bn ?_)
 obtain rfl := oi h
 exact Tj ⟨hle36, rfl, hs36_0, hs36_3⟩
 rintro ρ34 M34 H34 ⟨hle34, rfl, hs34_0, hs34_3⟩
 obtain ⟨x42, hj43, h⟩ := bnd h
 refine Jf (fun (x42 : Int) ρ' M' H' => M34.le M' ∧ F = H' ∧ ρ' 3 = (Iv x42)) x42 ?_ ?_
 have h343 := h
 have h := hj43
 refine Sr (Pm (Iv a0) hs34_0 rfl (Pu (Bv (decide (a0 = 7))) (PO.eql rfl rfl) rfl (Nt (Cd (b := decide (a0 = 7)) rfl (fun hb44 => ?_) (fun hb44 => ?_)))))
 have h := ite_t hb44 h
 refine Cg (Pm (Iv x33) hs34_3 rfl (Pu (Iv (orI .i64 x33 (256 : Int))) (PO.or rfl rfl) rfl (Pa (Iv (orI .i64 x33 (256 : Int))) rfl rfl (Wz ?_))))
 obtain rfl := oi h
 exact Tj ⟨lr, rfl, rfl⟩
 have h := ite_f hb44 h
 refine Ck ?_
 obtain rfl := oi h
 exact Tj ⟨lr, rfl, hs34_3⟩
 rintro ρ43 M43 H43 ⟨hle43, rfl, hs43_3⟩
 exact Sr (Pm (Iv x42) hs43_3 rfl (Pa (Iv x42) rfl rfl (Nt (Cr (Rf h [] rfl (Rs rfl rfl) ((hle22.trans hle34).trans hle43) ⟨rfl, rfl⟩)))))

noncomputable def f_rpc_Check_1 (a0 : Int) (a1 : T_api_Rpc) : Option Bool :=
  ((f_rpc_about a1.Kind).bind fun (r21 : Int) => (some (decide ((andI .i64 r21 a0) ≠ (0 : Int)))))
def f_rpc_Check_1_post (a0 : Int) (a1 : T_api_Rpc) (v1_11 v1_14 : Value) (g1 : Nat) : Bool → Value → IM → HL → Prop :=
  fun (r0 : Bool) (v : Value) (M' : IM) (H' : HL) => (.bool r0) = v ∧ H' = [[(g1, .cells #[(.int .i64 a1.Kind), (.int .i64 a1.From), (.int .i64 a1.To), (.int .i64 a1.Term), (.bool a1.Pre), (.bool a1.Ok), (.int .i64 a1.Leader), (.int .i64 a1.At), (.int .i64 a1.AtTerm), (.int .i64 a1.High), (.int .i64 a1.Code), v1_11, (.int .i64 a1.Size), (.int .i64 a1.Pos), v1_14] 25 (0, 0))]]
theorem f_rpc_Check_1_ok (a0 : Int) (a1 : T_api_Rpc) (M : IM) (v1_11 v1_14 : Value) (g1 : Nat) (h1_11 : RS kd_api_Batch M v1_11 a1.Batches) (h1_14 : RS (Kd.int .u8) M v1_14 a1.Data) (res : Bool) (h : f_rpc_Check_1 a0 a1 = some res) :
    Tri Tryz.prog 47 #[(Iv a0), (pt g1 0)] M [[(g1, .cells (l25 a1 v1_11 v1_14).toArray 25 (0, 0))]] (f_rpc_Check_1_post a0 a1 v1_11 v1_14 g1 res) := by
 unfold f_rpc_Check_1 at h
 refine Te Tryz.func47 rfl rfl ?_
 intro F ρ hρ
 refine Sr (Pa (Bv false) rfl rfl (Ns (Pu (pt g1 0) (Fa fo25_0 (hρ 1) rfl) rfl (Pu (Iv a1.Kind) (Lb 0 pl3 rfl rfl rfl) rfl ?_))))
 obtain ⟨r21, hr22, h⟩ := bnd h
 refine We (Ca co23 (f_rpc_about_ok a1.Kind _ r21 hr22) (args1 rfl)) rfl ?_
 rintro _ M23 _ hle24 ⟨_, ⟨rfl, rfl⟩, rfl⟩
 exact WL.a0 (Pm (Iv a0) (hρ 0) rfl (Pu (Iv (andI .i64 r21 a0)) (PO.and rfl rfl) rfl (Pu (Bv (decide ((andI .i64 r21 a0) ≠ 0))) (PO.neq rfl rfl) rfl (Pa (Bv (decide ((andI .i64 r21 a0) ≠ 0))) rfl rfl (Nt (Cr (Rf h [[(g1, .cells (l25 a1 v1_11 v1_14).toArray 25 (0, 0))]] rfl (Rs rfl rfl) hle24 ⟨rfl, rfl⟩)))))))

noncomputable def f_rpc_number (a0 : Int) (a1 : Bool) (a2 : Int) : Option Bool :=
  (if (!a1) = true then (some (decide (a0 = (0 : Int)))) else (((if (decide ((0 : Int) ≤ a0)) = true then (some (decide (a0 ≤ a2))) else (some false)) : Option Bool).bind fun (x22 : Bool) => (some x22)))
def f_rpc_number_post (a0 : Int) (a1 : Bool) (a2 : Int) : Bool → Value → IM → HL → Prop :=
  fun (r0 : Bool) (v : Value) (M' : IM) (H' : HL) => (.bool r0) = v ∧ H' = []
theorem f_rpc_number_ok (a0 : Int) (a1 : Bool) (a2 : Int) (M : IM) (res : Bool) (h : f_rpc_number a0 a1 a2 = some res) :
    Tri Tryz.prog 48 #[(Iv a0), (Bv a1), (Iv a2)] M [] (f_rpc_number_post a0 a1 a2 res) := by
 unfold f_rpc_number at h
 refine Te Tryz.func48 rfl rfl ?_
 intro F ρ hρ
 refine Sr (Pa (Bv false) rfl rfl (Nt (Cs (Sr (Pm (Bv a1) (hρ 1) rfl (Pu (Bv (!a1)) (PO.not rfl) rfl (Nt (Cd (b := !a1) rfl (fun hb21 => ?_) (fun hb21 => ?_)))))))))
 have h := ite_t hb21 h
 exact Sr (Pm (Iv a0) (hρ 0) rfl (Pu (Bv (decide (a0 = 0))) (PO.eql rfl rfl) rfl (Pa (Bv (decide (a0 = 0))) rfl rfl (Nt (Cr (Tr (Rf h [] rfl (Rs rfl rfl) lr ⟨rfl, rfl⟩)))))))
 have h := ite_f hb21 h
 refine Ck (Tc ?_)
 obtain ⟨x22, hj23, h⟩ := bnd h
 refine Jf (fun (x22 : Bool) ρ' M' H' => M.le M' ∧ F = H' ∧ ρ' 6 = (Bv x22)) x22 ?_ ?_
 have h323 := h
 have h := hj23
 refine Cg (Pm (Iv a0) (hρ 0) rfl (Pu (Bv (decide ((0 : Int) ≤ a0))) (PO.geq rfl rfl) rfl (Pm (Bv (decide ((0 : Int) ≤ a0))) rfl rfl ?_)))
 rcases Bt (decide ((0 : Int) ≤ a0)) with hb24 | hb24
 have h := ite_t hb24 h
 refine On 13 rfl rfl hb24 (Pm (Iv a0) (hρ 0) rfl (On 13 rfl rfl hb24 (Pm (Iv a2) (hρ 2) rfl (On 13 rfl rfl hb24 (Pu (Bv (decide (a0 ≤ a2))) (PO.leq rfl rfl) rfl (Pu (Bv (decide (a0 ≤ a2))) (Pt rfl hb24 rfl) rfl (Pa (Bv (decide (a0 ≤ a2))) rfl rfl (Wz ?_))))))))
 obtain rfl := oi h
 exact Tj ⟨lr, rfl, rfl⟩
 have h := ite_f hb24 h
 iterate 3 refine Of 13 rfl rfl hb24 rfl ?_
 refine Pu (Bv false) (Pf rfl hb24 rfl) rfl (Pa (Bv false) rfl rfl (Wz ?_))
 obtain rfl := oi h
 exact Tj ⟨lr, rfl, rfl⟩
 rintro ρ23 M23 H23 ⟨hle23, rfl, hs23_6⟩
 exact Cr (Rf h [] rfl (Rs rfl hs23_6) hle23 ⟨rfl, rfl⟩)

noncomputable def f_record_about (a0 : Int) : Option Int :=
  (if (decide (a0 = (2 : Int))) = true then (some (1027 : Int)) else (((if (decide (a0 = (3 : Int))) = true then (some (decide (a0 = (3 : Int)))) else (if (decide (a0 = (4 : Int))) = true then (some (decide (a0 = (4 : Int)))) else (if (decide (a0 = (5 : Int))) = true then (some (decide (a0 = (5 : Int)))) else (some (decide (a0 = (6 : Int))))))) : Option Bool).bind fun (x22 : Bool) => (if x22 = true then (some (3 : Int)) else (if (decide (a0 = (7 : Int))) = true then (some (132 : Int)) else (if (decide (a0 = (8 : Int))) = true then (some (6172 : Int)) else (if (decide (a0 = (9 : Int))) = true then (some (14366 : Int)) else (if (decide (a0 = (10 : Int))) = true then (some (836 : Int)) else (if (decide (a0 = (11 : Int))) = true then (some (4 : Int)) else (if (decide (a0 = (12 : Int))) = true then (some (32 : Int)) else (some (0 : Int)))))))))))
def f_record_about_post (a0 : Int) : Int → Value → IM → HL → Prop :=
  fun (r0 : Int) (v : Value) (M' : IM) (H' : HL) => (.int .i64 r0) = v ∧ H' = []
theorem f_record_about_ok (a0 : Int) (M : IM) (res : Int) (h : f_record_about a0 = some res) :
    Tri Tryz.prog 93 #[(Iv a0)] M [] (f_record_about_post a0 res) := by
 unfold f_record_about at h
 refine Te Tryz.func93 rfl rfl ?_
 intro F ρ hρ
 refine Sr (Pa (Iv 0) rfl rfl (Nt (Cs (Sr (Pm (Iv a0) (hρ 0) rfl (Nt (Bk (Sr (Pu (Bv (decide (a0 = 2))) (PO.eql rfl rfl) rfl (Pa (Bv (decide (a0 = 2))) rfl rfl (Nt ?_)))))))))))
 refine Cd (b := decide (a0 = 2)) rfl (fun hb21 => ?_) (fun hb21 => ?_)
 have h := ite_t hb21 h
 exact Sr (Pa (Iv 1027) rfl rfl (Nt (Cr (Br (Tr (Rf h [] rfl (Rs rfl rfl) lr ⟨rfl, rfl⟩))))))
 have h := ite_f hb21 h
 obtain ⟨x22, hj23, h⟩ := bnd h
 refine Jf (fun (x22 : Bool) ρ' M' H' => M.le M' ∧ F = H' ∧ ρ' 3 = (Iv a0) ∧ ρ' 6 = (Bv x22)) x22 ?_ ?_
 have h323 := h
 have h := hj23
 refine Sr (Pu (Bv (decide (a0 = 3))) (PO.eql rfl rfl) rfl (Pa (Bv (decide (a0 = 3))) rfl rfl (Nt (Cd (b := decide (a0 = 3)) rfl (fun hb24 => ?_) (fun hb24 => ?_)))))
 have h := ite_t hb24 h
 refine Ck ?_
 obtain rfl := oi h
 exact Tj ⟨lr, rfl, rfl, rfl⟩
 have h := ite_f hb24 h
 refine Sr (Pu (Bv (decide (a0 = 4))) (PO.eql rfl rfl) rfl (Pa (Bv (decide (a0 = 4))) rfl rfl (Nt (Cd (b := decide (a0 = 4)) rfl (fun hb25 => ?_) (fun hb25 => ?_)))))
 have h := ite_t hb25 h
 refine Ck ?_
 obtain rfl := oi h
 exact Tj ⟨lr, rfl, rfl, rfl⟩
 have h := ite_f hb25 h
 refine Sr (Pu (Bv (decide (a0 = 5))) (PO.eql rfl rfl) rfl (Pa (Bv (decide (a0 = 5))) rfl rfl (Nt (Cd (b := decide (a0 = 5)) rfl (fun hb26 => ?_) (fun hb26 => ?_)))))
 have h := ite_t hb26 h
 refine Ck ?_
 obtain rfl := oi h
 exact Tj ⟨lr, rfl, rfl, rfl⟩
 have h := ite_f hb26 h
 refine Cg (Pu (Bv (decide (a0 = 6))) (PO.eql rfl rfl) rfl (Pa (Bv (decide (a0 = 6))) rfl rfl (Wz ?_)))
 obtain rfl := oi h
 exact Tj ⟨lr, rfl, rfl, rfl⟩
 rintro ρ23 M23 H23 ⟨hle23, rfl, hs23_3, hs23_6⟩
 refine Cd (b := x22) hs23_6 (fun hb27 => ?_) (fun hb27 => ?_)
 have h := ite_t hb27 h
 exact Sr (Pa (Iv 3) rfl rfl (Nt (Cr (Br (Tr (Rf h [] rfl (Rs rfl rfl) hle23 ⟨rfl, rfl⟩))))))
 have h := ite_f hb27 h
 refine Sr (Pu (Bv (decide (a0 = 7))) (PO.eql hs23_3 rfl) rfl (Pa (Bv (decide (a0 = 7))) rfl rfl (Nt (Cd (b := decide (a0 = 7)) rfl (fun hb28 => ?_) (fun hb28 => ?_)))))
 have h := ite_t hb28 h
 exact Sr (Pa (Iv 132) rfl rfl (Nt (Cr (Br (Tr (Rf h [] rfl (Rs rfl rfl) hle23 ⟨rfl, rfl⟩))))))
 have h := ite_f hb28 h
 refine Sr (Pu (Bv (decide (a0 = 8))) (PO.eql hs23_3 rfl) rfl (Pa (Bv (decide (a0 = 8))) rfl rfl (Nt (Cd (b := decide (a0 = 8)) rfl (fun hb29 => ?_) (fun hb29 => ?_)))))
 have h := ite_t hb29 h
 exact Sr (Pa (Iv 6172) rfl rfl (Nt (Cr (Br (Tr (Rf h [] rfl (Rs rfl rfl) hle23 ⟨rfl, rfl⟩))))))
 have h := ite_f hb29 h
 refine Sr (Pu (Bv (decide (a0 = 9))) (PO.eql hs23_3 rfl) rfl (Pa (Bv (decide (a0 = 9))) rfl rfl (Nt (Cd (b := decide (a0 = 9)) rfl (fun hb30 => ?_) (fun hb30 => ?_)))))
 have h := ite_t hb30 h
 exact Sr (Pa (Iv 14366) rfl rfl (Nt (Cr (Br (Tr (Rf h [] rfl (Rs rfl rfl) hle23 ⟨rfl, rfl⟩))))))
 have h := ite_f hb30 h
 refine Sr (Pu (Bv (decide (a0 = 10))) (PO.eql hs23_3 rfl) rfl (Pa (Bv (decide (a0 = 10))) rfl rfl (Nt (Cd (b := decide (a0 = 10)) rfl (fun hb31 => ?_) (fun hb31 => ?_)))))
 have h := ite_t hb31 h
 exact Sr (Pa (Iv 836) rfl rfl (Nt (Cr (Br (Tr (Rf h [] rfl (Rs rfl rfl) hle23 ⟨rfl, rfl⟩))))))
 have h := ite_f hb31 h
 refine Sr (Pu (Bv (decide (a0 = 11))) (PO.eql hs23_3 rfl) rfl (Pa (Bv (decide (a0 = 11))) rfl rfl (Nt (Cd (b := decide (a0 = 11)) rfl (fun hb32 => ?_) (fun hb32 => ?_)))))
 have h := ite_t hb32 h
 exact Sr (Pa (Iv 4) rfl rfl (Nt (Cr (Br (Tr (Rf h [] rfl (Rs rfl rfl) hle23 ⟨rfl, rfl⟩))))))
 have h := ite_f hb32 h
 refine Sr (Pu (Bv (decide (a0 = 12))) (PO.eql hs23_3 rfl) rfl (Pa (Bv (decide (a0 = 12))) rfl rfl (Nt (Cd (b := decide (a0 = 12)) rfl (fun hb33 => ?_) (fun hb33 => ?_)))))
 have h := ite_t hb33 h
 exact Sr (Pa (Iv 32) rfl rfl (Nt (Cr (Br (Tr (Rf h [] rfl (Rs rfl rfl) hle23 ⟨rfl, rfl⟩))))))
 have h := ite_f hb33 h
 exact Ck (Bn (Tc (Sr (Pa (Iv 0) rfl rfl (Nt (Cr (Rf h [] rfl (Rs rfl rfl) hle23 ⟨rfl, rfl⟩)))))))

noncomputable def f_record_Check_1 (a0 : Int) (a1 : T_api_Record) : Option Bool :=
  ((f_record_about a1.Kind).bind fun (r21 : Int) => (some (decide ((andI .i64 r21 a0) ≠ (0 : Int)))))
def f_record_Check_1_post (a0 : Int) (a1 : T_api_Record) (v1_14 v1_15 v1_16 v1_17 : Value) (g1 : Nat) : Bool → Value → IM → HL → Prop :=
  fun (r0 : Bool) (v : Value) (M' : IM) (H' : HL) => (.bool r0) = v ∧ H' = [[(g1, .cells #[(.int .i64 a1.Kind), (.int .i64 a1.Broker), (.int .i64 a1.Epoch), (.int .i64 a1.Topic), (.int .i64 a1.Part), (.int .i64 a1.Leader), (.int .i64 a1.Client), (.int .i64 a1.Serial), (.int .i64 a1.Code), (.bool a1.Flag), (.string a1.Name), (.string a1.Key), (.string a1.Value), (.string a1.Rack), v1_14, v1_15, v1_16, v1_17] 58 (0, 0))]]
theorem f_record_Check_1_ok (a0 : Int) (a1 : T_api_Record) (M : IM) (v1_14 v1_15 v1_16 v1_17 : Value) (g1 : Nat) (h1_14 : RS (Kd.int .i64) M v1_14 a1.Ids) (h1_15 : RS (Kd.int .i64) M v1_15 a1.Isr) (h1_16 : RS (Kd.int .i64) M v1_16 a1.Add) (h1_17 : RS (Kd.int .i64) M v1_17 a1.Drop) (res : Bool) (h : f_record_Check_1 a0 a1 = some res) :
    Tri Tryz.prog 112 #[(Iv a0), (pt g1 0)] M [[(g1, .cells (l58 a1 v1_14 v1_15 v1_16 v1_17).toArray 58 (0, 0))]] (f_record_Check_1_post a0 a1 v1_14 v1_15 v1_16 v1_17 g1 res) := by
 unfold f_record_Check_1 at h
 refine Te Tryz.func112 rfl rfl ?_
 intro F ρ hρ
 refine Sr (Pa (Bv false) rfl rfl (Ns (Pu (pt g1 0) (Fa fo58_0 (hρ 1) rfl) rfl (Pu (Iv a1.Kind) (Lb 0 pl3 rfl rfl rfl) rfl ?_))))
 obtain ⟨r21, hr22, h⟩ := bnd h
 refine We (Ca co93 (f_record_about_ok a1.Kind _ r21 hr22) (args1 rfl)) rfl ?_
 rintro _ M23 _ hle24 ⟨_, ⟨rfl, rfl⟩, rfl⟩
 exact WL.a0 (Pm (Iv a0) (hρ 0) rfl (Pu (Iv (andI .i64 r21 a0)) (PO.and rfl rfl) rfl (Pu (Bv (decide ((andI .i64 r21 a0) ≠ 0))) (PO.neq rfl rfl) rfl (Pa (Bv (decide ((andI .i64 r21 a0) ≠ 0))) rfl rfl (Nt (Cr (Rf h [[(g1, .cells (l58 a1 v1_14 v1_15 v1_16 v1_17).toArray 58 (0, 0))]] rfl (Rs rfl rfl) hle24 ⟨rfl, rfl⟩)))))))

noncomputable def f_record_number (a0 : Int) (a1 : Bool) (a2 : Int) (a3 : Int) : Option Bool :=
  (if (!a1) = true then (some (decide (a0 = (0 : Int)))) else (((if (decide (a2 ≤ a0)) = true then (some (decide (a0 ≤ a3))) else (some false)) : Option Bool).bind fun (x22 : Bool) => (some x22)))
def f_record_number_post (a0 : Int) (a1 : Bool) (a2 : Int) (a3 : Int) : Bool → Value → IM → HL → Prop :=
  fun (r0 : Bool) (v : Value) (M' : IM) (H' : HL) => (.bool r0) = v ∧ H' = []
theorem f_record_number_ok (a0 : Int) (a1 : Bool) (a2 : Int) (a3 : Int) (M : IM) (res : Bool) (h : f_record_number a0 a1 a2 a3 = some res) :
    Tri Tryz.prog 114 #[(Iv a0), (Bv a1), (Iv a2), (Iv a3)] M [] (f_record_number_post a0 a1 a2 a3 res) := by
 unfold f_record_number at h
 refine Te Tryz.func114 rfl rfl ?_
 intro F ρ hρ
 refine Sr (Pa (Bv false) rfl rfl (Nt (Cs (Sr (Pm (Bv a1) (hρ 1) rfl (Pu (Bv (!a1)) (PO.not rfl) rfl (Nt (Cd (b := !a1) rfl (fun hb21 => ?_) (fun hb21 => ?_)))))))))
 have h := ite_t hb21 h
 exact Sr (Pm (Iv a0) (hρ 0) rfl (Pu (Bv (decide (a0 = 0))) (PO.eql rfl rfl) rfl (Pa (Bv (decide (a0 = 0))) rfl rfl (Nt (Cr (Tr (Rf h [] rfl (Rs rfl rfl) lr ⟨rfl, rfl⟩)))))))
 have h := ite_f hb21 h
 refine Ck (Tc ?_)
 obtain ⟨x22, hj23, h⟩ := bnd h
 refine Jf (fun (x22 : Bool) ρ' M' H' => M.le M' ∧ F = H' ∧ ρ' 8 = (Bv x22)) x22 ?_ ?_
 have h323 := h
 have h := hj23
 refine Cg (Pm (Iv a0) (hρ 0) rfl (Pm (Iv a2) (hρ 2) rfl (Pu (Bv (decide (a2 ≤ a0))) (PO.geq rfl rfl) rfl (Pm (Bv (decide (a2 ≤ a0))) rfl rfl ?_))))
 rcases Bt (decide (a2 ≤ a0)) with hb24 | hb24
 have h := ite_t hb24 h
 refine On 16 rfl rfl hb24 (Pm (Iv a0) (hρ 0) rfl (On 16 rfl rfl hb24 (Pm (Iv a3) (hρ 3) rfl (On 16 rfl rfl hb24 (Pu (Bv (decide (a0 ≤ a3))) (PO.leq rfl rfl) rfl (Pu (Bv (decide (a0 ≤ a3))) (Pt rfl hb24 rfl) rfl (Pa (Bv (decide (a0 ≤ a3))) rfl rfl (Wz ?_))))))))
 obtain rfl := oi h
 exact Tj ⟨lr, rfl, rfl⟩
 have h := ite_f hb24 h
 iterate 3 refine Of 16 rfl rfl hb24 rfl ?_
 refine Pu (Bv false) (Pf rfl hb24 rfl) rfl (Pa (Bv false) rfl rfl (Wz ?_))
 obtain rfl := oi h
 exact Tj ⟨lr, rfl, rfl⟩
 rintro ρ23 M23 H23 ⟨hle23, rfl, hs23_8⟩
 exact Cr (Rf h [] rfl (Rs rfl hs23_8) hle23 ⟨rfl, rfl⟩)

noncomputable def f_record_Name_l0 (a0 : ByteArray) (s_ : Int) : Option (Int ⊕ (Unit ⊕ Unit)) :=
  match s_ with
  | x32 =>
    (if (decide (x32 < ((bytesOf a0).length : Int))) = true then (grd (0 ≤ x32 ∧ x32 < (bytesOf a0).length) (((if (decide ((97 : Int) ≤ (rd (bytesOf a0) x32))) = true then (if (decide ((48 : Int) ≤ (rd (bytesOf a0) x32))) = true then (some (decide ((rd (bytesOf a0) x32) ≤ (122 : Int)), decide ((rd (bytesOf a0) x32) ≤ (57 : Int)))) else (some (decide ((rd (bytesOf a0) x32) ≤ (122 : Int)), false))) else (if (decide ((48 : Int) ≤ (rd (bytesOf a0) x32))) = true then (some (false, decide ((rd (bytesOf a0) x32) ≤ (57 : Int)))) else (some (false, false)))) : Option (Bool × Bool)).bind fun (x41, x42) => (((if (!x41) = true then (if (!x42) = true then (if (decide ((rd (bytesOf a0) x32) ≠ (46 : Int))) = true then (some (decide ((rd (bytesOf a0) x32) ≠ (45 : Int)))) else (some false)) else (some false)) else (some false)) : Option Bool).bind fun (x47 : Bool) => (if x47 = true then (some (Sum.inr (Sum.inr ()))) else (some (Sum.inl (IntKind.i64.wrap (x32 + (1 : Int))))))))) else (some (Sum.inr (Sum.inl ()))))
noncomputable def f_record_Name (a0 : ByteArray) : Option Bool :=
  (((if (decide (a0 = (⟨#[]⟩ : ByteArray))) = true then (some true) else (if (decide ((40 : Int) < (a0.size : Int))) = true then (some true) else (if (decide (a0 = (⟨#[46]⟩ : ByteArray))) = true then (some true) else (some (decide (a0 = (⟨#[46, 46]⟩ : ByteArray))))))) : Option Bool).bind fun (x21 : Bool) => (if x21 = true then (some false) else ((((iter (f_record_Name_l0 a0) (0 : Int)).bind (Sum.elim (fun _ => (some (Sum.inl ()))) (fun _ => (((some false)).bind fun r => some (Sum.inr r))))) : Option (Unit ⊕ Bool)).bind (Sum.elim (fun _ => (some true)) some))))
def f_record_Name_post (a0 : ByteArray) : Bool → Value → IM → HL → Prop :=
  fun (r0 : Bool) (v : Value) (M' : IM) (H' : HL) => (.bool r0) = v ∧ H' = []
theorem f_record_Name_ok (a0 : ByteArray) (M : IM) (res : Bool) (h : f_record_Name a0 = some res) :
    Tri Tryz.prog 116 #[(Sv a0)] M [] (f_record_Name_post a0 res) := by
 unfold f_record_Name at h
 refine Te Tryz.func116 rfl rfl ?_
 intro F ρ hρ
 refine Sr (Pa (Bv false) rfl rfl (Nt (Cs ?_)))
 obtain ⟨x21, hj22, h⟩ := bnd h
 refine Jf (fun (x21 : Bool) ρ' M' H' => M.le M' ∧ F = H' ∧ ρ' 0 = (Sv a0) ∧ ρ' 21 = (Bv x21)) x21 ?_ ?_
 have h322 := h
 have h := hj22
 refine Cg (Pm (Sv a0) (hρ 0) rfl (Pu (Bv (decide (a0 = (⟨#[]⟩ : ByteArray)))) (PO.seql rfl rfl) rfl (Pm (Bv (decide (a0 = (⟨#[]⟩ : ByteArray)))) rfl rfl ?_)))
 rcases Bt (decide (a0 = (⟨#[]⟩ : ByteArray))) with hb23 | hb23
 have h := ite_t hb23 h
 iterate 3 refine Of 9 rfl rfl hb23 rfl ?_
 refine Pu (Bv true) (Pt rfl hb23 rfl) rfl (Pm (Bv true) rfl rfl ?_)
 iterate 2 refine Of 14 rfl rfl rfl rfl ?_
 refine Pu (Bv true) (Pt rfl rfl rfl) rfl (Pm (Bv true) rfl rfl ?_)
 iterate 2 refine Of 18 rfl rfl rfl rfl ?_
 refine Pu (Bv true) (Pt rfl rfl rfl) rfl (Wz ?_)
 obtain rfl := oi h
 exact Tj ⟨lr, rfl, (hρ 0), rfl⟩
 have h := ite_f hb23 h
 refine On 9 rfl rfl hb23 (Pm (Sv a0) (hρ 0) rfl (On 9 rfl rfl hb23 (Pu (Iv (a0.size : Int)) (PO.lenStr Tryz.underlying9 rfl) rfl (On 9 rfl rfl hb23 (Pu (Bv (decide ((40 : Int) < (a0.size : Int)))) (PO.gtr rfl rfl) rfl (Pu (Bv (decide ((40 : Int) < (a0.size : Int)))) (Pf rfl hb23 rfl) rfl (Pm (Bv (decide ((40 : Int) < (a0.size : Int)))) rfl rfl ?_)))))))
 rcases Bt (decide ((40 : Int) < (a0.size : Int))) with hb24 | hb24
 have h := ite_t hb24 h
 iterate 2 refine Of 14 rfl rfl hb24 rfl ?_
 refine Pu (Bv true) (Pt rfl hb24 rfl) rfl (Pm (Bv true) rfl rfl ?_)
 iterate 2 refine Of 18 rfl rfl rfl rfl ?_
 refine Pu (Bv true) (Pt rfl rfl rfl) rfl (Wz ?_)
 obtain rfl := oi h
 exact Tj ⟨lr, rfl, (hρ 0), rfl⟩
 have h := ite_f hb24 h
 refine On 14 rfl rfl hb24 (Pm (Sv a0) (hρ 0) rfl (On 14 rfl rfl hb24 (Pu (Bv (decide (a0 = (⟨#[46]⟩ : ByteArray)))) (PO.seql rfl rfl) rfl (Pu (Bv (decide (a0 = (⟨#[46]⟩ : ByteArray)))) (Pf rfl hb24 rfl) rfl (Pm (Bv (decide (a0 = (⟨#[46]⟩ : ByteArray)))) rfl rfl ?_)))))
 rcases Bt (decide (a0 = (⟨#[46]⟩ : ByteArray))) with hb25 | hb25
 have h := ite_t hb25 h
 iterate 2 refine Of 18 rfl rfl hb25 rfl ?_
 refine Pu (Bv true) (Pt rfl hb25 rfl) rfl (Wz ?_)
 obtain rfl := oi h
 exact Tj ⟨lr, rfl, (hρ 0), rfl⟩
 have h := ite_f hb25 h
 refine On 18 rfl rfl hb25 (Pm (Sv a0) (hρ 0) rfl (On 18 rfl rfl hb25 (Pu (Bv (decide (a0 = (⟨#[46, 46]⟩ : ByteArray)))) (PO.seql rfl rfl) rfl (Pu (Bv (decide (a0 = (⟨#[46, 46]⟩ : ByteArray)))) (Pf rfl hb25 rfl) rfl (Wz ?_)))))
 obtain rfl := oi h
 exact Tj ⟨lr, rfl, (hρ 0), rfl⟩
 rintro ρ22 M22 H22 ⟨hle22, rfl, hs22_0, hs22_21⟩
 refine Cd (b := x21) hs22_21 (fun hb26 => ?_) (fun hb26 => ?_)
 have h := ite_t hb26 h
 exact Sr (Pa (Bv false) rfl rfl (Nt (Cr (Tr (Rf h [] rfl (Rs rfl rfl) hle22 ⟨rfl, rfl⟩)))))
 have h := ite_f hb26 h
 refine Ck (Tc ?_)
 obtain ⟨j27, hj27, h⟩ := bnd h
 refine WC.joinE (fun (_ : Unit) ρ' M' H' => M22.le M' ∧ F = H') j27 ?_ ?_
 have h327 := h
 have h := hj27
 refine Sr (Pm (Sv a0) hs22_0 rfl (We (EO.s2b Tryz.underlying9 Tryz.underlying23 Tryz.underlying5 rfl) rfl ?_))
 rintro v30 _ _ - ⟨rfl, c28, rfl, h29⟩
 refine Pu (Iv ((bytesOf a0).length : Int)) (PO.lenS Tryz.underlying23 rfl h29.len) rfl (Pm (Iv 0) rfl rfl (Nt (Bk ?_)))
 obtain ⟨e31, he31, hK31⟩ := bnd h
 clear h
 refine WC.loop he31 (fun (x32 : Int) ρ' M' H' => M22.le M' ∧ c28 :: F = H' ∧ ρ' 23 = v30 ∧ ρ' 24 = (Iv ((bytesOf a0).length : Int)) ∧ ρ' 25 = (Iv x32)) ?_ ?_
 exact ⟨lr, rfl, rfl, rfl, rfl⟩
 rintro x32 o31 ρ31 M31 H31 h ⟨hle31, rfl, hs31_23, hs31_24, hs31_25⟩
 unfold f_record_Name_l0 at h
 refine Sr (Pu (Bv (decide (x32 < ((bytesOf a0).length : Int)))) (PO.lss hs31_25 hs31_24) rfl (Nt (Cs (Cd (b := decide (x32 < ((bytesOf a0).length : Int))) rfl (fun hb33 => ?_) (fun hb33 => ?_)))))
 have h := ite_t hb33 h
 refine Ck (Tc (Cs (Bk (Sr ?_))))
 obtain ⟨hg34, h⟩ := grd_i h
 have h29 := h29.mono hle31
 obtain ⟨p35, cs36, hat37, hrc38, hhas39⟩ := h29.at hg34.1 hg34.2
 obtain rfl := hrc38
 refine Pu (.pointer (some p35)) (PO.indexAddr (n := (bytesOf a0).length) Tryz.underlying23 sz5 hs31_23 hs31_25 hg34.1 hg34.2 hat37) rfl (Pu (Yv (rd (bytesOf a0) x32)) (PO.loadC 0 pl5 rfl rfl (chunkHas0 hhas39)) rfl (Pa (Yv (rd (bytesOf a0) x32)) rfl rfl (Nt ?_)))
 obtain ⟨j43, hj43, h⟩ := bnd h
 refine Jf (fun (p_ : (Bool × Bool)) ρ' M' H' => match p_ with | (x41, x42) => M31.le M' ∧ c28 :: F = H' ∧ ρ' 4 = (Yv (rd (bytesOf a0) x32)) ∧ ρ' 5 = (Bv x41) ∧ ρ' 6 = (Bv x42) ∧ ρ' 23 = v30 ∧ ρ' 24 = (Iv ((bytesOf a0).length : Int)) ∧ ρ' 25 = (Iv x32)) j43 ?_ ?_
 have h343 := h
 have h := hj43
 refine Cg (Pm (Yv (rd (bytesOf a0) x32)) rfl rfl (Pu (Bv (decide ((97 : Int) ≤ (rd (bytesOf a0) x32)))) (PO.geq rfl rfl) rfl (Pm (Bv (decide ((97 : Int) ≤ (rd (bytesOf a0) x32)))) rfl rfl ?_)))
 rcases Bt (decide ((97 : Int) ≤ (rd (bytesOf a0) x32))) with hb44 | hb44
 have h := ite_t hb44 h
 refine On 31 rfl rfl hb44 (Pm (Yv (rd (bytesOf a0) x32)) rfl rfl (On 31 rfl rfl hb44 (Pu (Bv (decide ((rd (bytesOf a0) x32) ≤ 122))) (PO.leq rfl rfl) rfl (Pu (Bv (decide ((rd (bytesOf a0) x32) ≤ 122))) (Pt rfl hb44 rfl) rfl (Pm (Yv (rd (bytesOf a0) x32)) rfl rfl (Pu (Bv (decide ((48 : Int) ≤ (rd (bytesOf a0) x32)))) (PO.geq rfl rfl) rfl (Pm (Bv (decide ((48 : Int) ≤ (rd (bytesOf a0) x32)))) rfl rfl ?_)))))))
 rcases Bt (decide ((48 : Int) ≤ (rd (bytesOf a0) x32))) with hb45 | hb45
 have h := ite_t hb45 h
 refine On 37 rfl rfl hb45 (Pm (Yv (rd (bytesOf a0) x32)) rfl rfl (On 37 rfl rfl hb45 (Pu (Bv (decide ((rd (bytesOf a0) x32) ≤ 57))) (PO.leq rfl rfl) rfl (Pu (Bv (decide ((rd (bytesOf a0) x32) ≤ 57))) (Pt rfl hb45 rfl) rfl (Pa (Bv (decide ((rd (bytesOf a0) x32) ≤ 122))) rfl rfl (Pa (Bv (decide ((rd (bytesOf a0) x32) ≤ 57))) rfl rfl (Wz ?_)))))))
 obtain rfl := oi h
 exact Tj ⟨lr, rfl, rfl, rfl, rfl, hs31_23, hs31_24, hs31_25⟩
 have h := ite_f hb45 h
 iterate 2 refine Of 37 rfl rfl hb45 rfl ?_
 refine Pu (Bv false) (Pf rfl hb45 rfl) rfl (Pa (Bv (decide ((rd (bytesOf a0) x32) ≤ 122))) rfl rfl (Pa (Bv false) rfl rfl (Wz ?_)))
 obtain rfl := oi h
 exact Tj ⟨lr, rfl, rfl, rfl, rfl, hs31_23, hs31_24, hs31_25⟩
 have h := ite_f hb44 h
 iterate 2 refine Of 31 rfl rfl hb44 rfl ?_
 refine Pu (Bv false) (Pf rfl hb44 rfl) rfl (Pm (Yv (rd (bytesOf a0) x32)) rfl rfl (Pu (Bv (decide ((48 : Int) ≤ (rd (bytesOf a0) x32)))) (PO.geq rfl rfl) rfl (Pm (Bv (decide ((48 : Int) ≤ (rd (bytesOf a0) x32)))) rfl rfl ?_)))
 rcases Bt (decide ((48 : Int) ≤ (rd (bytesOf a0) x32))) with hb46 | hb46
 have h := ite_t hb46 h
 refine On 37 rfl rfl hb46 (Pm (Yv (rd (bytesOf a0) x32)) rfl rfl (On 37 rfl rfl hb46 (Pu (Bv (decide ((rd (bytesOf a0) x32) ≤ 57))) (PO.leq rfl rfl) rfl (Pu (Bv (decide ((rd (bytesOf a0) x32) ≤ 57))) (Pt rfl hb46 rfl) rfl (Pa (Bv false) rfl rfl (Pa (Bv (decide ((rd (bytesOf a0) x32) ≤ 57))) rfl rfl (Wz ?_)))))))
 obtain rfl := oi h
 exact Tj ⟨lr, rfl, rfl, rfl, rfl, hs31_23, hs31_24, hs31_25⟩
 have h := ite_f hb46 h
 iterate 2 refine Of 37 rfl rfl hb46 rfl ?_
 refine Pu (Bv false) (Pf rfl hb46 rfl) rfl (Pa (Bv false) rfl rfl (Pa (Bv false) rfl rfl (Wz ?_)))
 obtain rfl := oi h
 exact Tj ⟨lr, rfl, rfl, rfl, rfl, hs31_23, hs31_24, hs31_25⟩
 obtain ⟨x41, x42⟩ := j43
 rintro ρ43 M43 H43 ⟨hle43, rfl, hs43_4, hs43_5, hs43_6, hs43_23, hs43_24, hs43_25⟩
 obtain ⟨x47, hj48, h⟩ := bnd h
 refine Jf (fun (x47 : Bool) ρ' M' H' => M43.le M' ∧ c28 :: F = H' ∧ ρ' 23 = v30 ∧ ρ' 24 = (Iv ((bytesOf a0).length : Int)) ∧ ρ' 25 = (Iv x32) ∧ ρ' 54 = (Bv x47)) x47 ?_ ?_
 have h348 := h
 have h := hj48
 refine Cg (Pm (Bv x41) hs43_5 rfl (Pu (Bv (!x41)) (PO.not rfl) rfl (Pm (Bv (!x41)) rfl rfl ?_)))
 rcases Bt (!x41) with hb49 | hb49
 have h := ite_t hb49 h
 refine On 43 rfl rfl hb49 (Pm (Bv x42) hs43_6 rfl (On 43 rfl rfl hb49 (Pu (Bv (!x42)) (PO.not rfl) rfl (Pu (Bv (!x42)) (Pt rfl hb49 rfl) rfl (Pm (Bv (!x42)) rfl rfl ?_)))))
 rcases Bt (!x42) with hb50 | hb50
 have h := ite_t hb50 h
 refine On 47 rfl rfl hb50 (Pm (Yv (rd (bytesOf a0) x32)) hs43_4 rfl (On 47 rfl rfl hb50 (Pu (Bv (decide ((rd (bytesOf a0) x32) ≠ 46))) (PO.neq rfl rfl) rfl (Pu (Bv (decide ((rd (bytesOf a0) x32) ≠ 46))) (Pt rfl hb50 rfl) rfl (Pm (Bv (decide ((rd (bytesOf a0) x32) ≠ 46))) rfl rfl ?_)))))
 rcases Bt (decide ((rd (bytesOf a0) x32) ≠ 46)) with hb51 | hb51
 have h := ite_t hb51 h
 refine On 51 rfl rfl hb51 (Pm (Yv (rd (bytesOf a0) x32)) hs43_4 rfl (On 51 rfl rfl hb51 (Pu (Bv (decide ((rd (bytesOf a0) x32) ≠ 45))) (PO.neq rfl rfl) rfl (Pu (Bv (decide ((rd (bytesOf a0) x32) ≠ 45))) (Pt rfl hb51 rfl) rfl (Wz ?_)))))
 obtain rfl := oi h
 exact Tj ⟨lr, rfl, hs43_23, hs43_24, hs43_25, rfl⟩
 have h := ite_f hb51 h
 iterate 2 refine Of 51 rfl rfl hb51 rfl ?_
 refine Pu (Bv false) (Pf rfl hb51 rfl) rfl (Wz ?_)
 obtain rfl := oi h
 exact Tj ⟨lr, rfl, hs43_23, hs43_24, hs43_25, rfl⟩
 have h := ite_f hb50 h
 iterate 2 refine Of 47 rfl rfl hb50 rfl ?_
 refine Pu (Bv false) (Pf rfl hb50 rfl) rfl (Pm (Bv false) rfl rfl ?_)
 iterate 2 refine Of 51 rfl rfl rfl rfl ?_
 refine Pu (Bv false) (Pf rfl rfl rfl) rfl (Wz ?_)
 obtain rfl := oi h
 exact Tj ⟨lr, rfl, hs43_23, hs43_24, hs43_25, rfl⟩
 have h := ite_f hb49 h
 iterate 2 refine Of 43 rfl rfl hb49 rfl ?_
 refine Pu (Bv false) (Pf rfl hb49 rfl) rfl (Pm (Bv false) rfl rfl ?_)
 iterate 2 refine Of 47 rfl rfl rfl rfl ?_
 refine Pu (Bv false) (Pf rfl rfl rfl) rfl (Pm (Bv false) rfl rfl ?_)
 iterate 2 refine Of 51 rfl rfl rfl rfl ?_
 refine Pu (Bv false) (Pf rfl rfl rfl) rfl (Wz ?_)
 obtain rfl := oi h
 exact Tj ⟨lr, rfl, hs43_23, hs43_24, hs43_25, rfl⟩
 rintro ρ48 M48 H48 ⟨hle48, rfl, hs48_23, hs48_24, hs48_25, hs48_54⟩
 refine Cd (b := x47) hs48_54 (fun hb52 => ?_) (fun hb52 => ?_)
 have h := ite_t hb52 h
 refine Sr (Pa (Bv false) rfl rfl (Nt (Cr (Br (Tr (WQ.leaveR (Sum.inr ()) (oi h).symm (fun heq31 => ?_)))))))
 subst heq31
 have h := (elimR hK31)
 refine Br (Tr ?_)
 have h := KK.early h h327
 exact Dr (Rf h [] rfl (Rs rfl rfl) (((hle22.trans hle31).trans hle43).trans hle48) ⟨rfl, rfl⟩)
 have h := ite_f hb52 h
 exact Ck (Bn (Tc (Cg (Pu (Iv (IntKind.i64.wrap (x32 + 1))) (PO.add hs48_25 rfl) rfl (Pm (Iv (IntKind.i64.wrap (x32 + 1))) rfl rfl (Wz (WQ.again (IntKind.i64.wrap (x32 + 1)) (oi h).symm ⟨((hle31.trans hle43).trans hle48), rfl, hs48_23, hs48_24, rfl⟩)))))))
 have h := ite_f hb33 h
 refine WC.exit (WQ.thenE (WQ.leaveE (Sum.inl ()) (oi h).symm (fun heq31 => ?_)))
 subst heq31
 have h := elimL hK31
 exact WQ.blockH (Dr (WQ.thenFE h ⟨hle31, rfl⟩))
 rintro _ ρ27 M27 H27 rfl ⟨hle27, rfl⟩
 have h := (Sum.elim_inl _ _ _).symm.trans h
 exact Sr (Pa (Bv true) rfl rfl (Nt (Cr (Rf h [] rfl (Rs rfl rfl) (hle22.trans hle27) ⟨rfl, rfl⟩))))

noncomputable def f_record_text_116 (a0 : ByteArray) (a1 : Bool) : Option Bool :=
  (if (!a1) = true then (some (decide (a0 = (⟨#[]⟩ : ByteArray)))) else ((f_record_Name a0).bind fun (r22 : Bool) => (some r22)))
def f_record_text_116_post (a0 : ByteArray) (a1 : Bool) : Bool → Value → IM → HL → Prop :=
  fun (r0 : Bool) (v : Value) (M' : IM) (H' : HL) => (.bool r0) = v ∧ H' = []
theorem f_record_text_116_ok (a0 : ByteArray) (a1 : Bool) (M : IM) (res : Bool) (h : f_record_text_116 a0 a1 = some res) :
    Tri Tryz.prog 115 #[(Sv a0), (Bv a1), (.func (.func 116) #[] #[])] M [] (f_record_text_116_post a0 a1 res) := by
 unfold f_record_text_116 at h
 refine Te Tryz.func115 rfl rfl ?_
 intro F ρ hρ
 refine Sr (Pa (Bv false) rfl rfl (Nt (Cs (Sr (Pm (Bv a1) (hρ 1) rfl (Pu (Bv (!a1)) (PO.not rfl) rfl (Nt (Cd (b := !a1) rfl (fun hb21 => ?_) (fun hb21 => ?_)))))))))
 have h := ite_t hb21 h
 exact Sr (Pm (Sv a0) (hρ 0) rfl (Pu (Bv (decide (a0 = (⟨#[]⟩ : ByteArray)))) (PO.seql rfl rfl) rfl (Pa (Bv (decide (a0 = (⟨#[]⟩ : ByteArray)))) rfl rfl (Nt (Cr (Tr (Rf h [] rfl (Rs rfl rfl) lr ⟨rfl, rfl⟩)))))))
 have h := ite_f hb21 h
 refine Ck (Tc (Sr (Pm (.func (.func 116) #[] #[]) (hρ 2) rfl (Pm (Sv a0) (hρ 0) rfl ?_))))
 obtain ⟨r22, hr23, h⟩ := bnd h
 refine We (EO.callV0 (first := #[]) (cap := #[]) co116 rfl (f_record_Name_ok a0 _ r22 hr23) (argsV1 rfl rfl)) rfl ?_
 rintro _ M24 _ hle25 ⟨_, ⟨rfl, rfl⟩, rfl⟩
 exact WL.a0 (Pa (Bv r22) rfl rfl (Nt (Cr (Rf h [] rfl (Rs rfl rfl) hle25 ⟨rfl, rfl⟩))))

noncomputable def f_record_Check_2 (a0 : ByteArray) : Option Bool :=
  (some (decide ((a0.size : Int) ≤ (256 : Int))))
def f_record_Check_2_post (a0 : ByteArray) : Bool → Value → IM → HL → Prop :=
  fun (r0 : Bool) (v : Value) (M' : IM) (H' : HL) => (.bool r0) = v ∧ H' = []
theorem f_record_Check_2_ok (a0 : ByteArray) (M : IM) (res : Bool) (h : f_record_Check_2 a0 = some res) :
    Tri Tryz.prog 113 #[(Sv a0)] M [] (f_record_Check_2_post a0 res) := by
 unfold f_record_Check_2 at h
 refine Te Tryz.func113 rfl rfl ?_
 intro F ρ hρ
 exact Sr (Pa (Bv false) rfl rfl (Ns (Pm (Sv a0) (hρ 0) rfl (Pu (Iv (a0.size : Int)) (PO.lenStr Tryz.underlying9 rfl) rfl (Pu (Bv (decide ((a0.size : Int) ≤ (256 : Int)))) (PO.leq rfl rfl) rfl (Pa (Bv (decide ((a0.size : Int) ≤ (256 : Int)))) rfl rfl (Nt (Cr (Rf h [] rfl (Rs rfl rfl) lr ⟨rfl, rfl⟩)))))))))


end Go.Proofs.YtkflneabcannnaaGreatDoor.G
