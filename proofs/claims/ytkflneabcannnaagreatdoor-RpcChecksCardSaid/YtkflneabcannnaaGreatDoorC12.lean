/- Go functions: what they come to, and that they do. Printed by a program of the session (gen). -/
import Derived.Test.YtkflneabcannnaaGreatDoorCF
import Derived.Test.YtkflneabcannnaaGreatDoorC11
import Derived.Test.YtkflneabcannnaaGreatDoorKConv
import Derived.Test.YtkflneabcannnaaGreatDoorKShar2
import Derived.Test.YtkflneabcannnaaGreatDoorKTight2
set_option linter.unusedVariables false
set_option linter.unusedSimpArgs false
set_option maxHeartbeats 8000000
set_option maxRecDepth 100000
namespace Go.Proofs.YtkflneabcannnaaGreatDoor.G
open Go Go.KK

noncomputable def f_ref05_Brokers_l1 (a0 : (List Int)) (x24 : Int) (s_ : Int) : Option (Int ⊕ (Unit ⊕ Unit)) :=
  match s_ with
  | x46 =>
    (if (decide (x46 < x24)) = true then (grd (0 ≤ x46 ∧ x46 < a0.length) (grd (0 ≤ x24 ∧ x24 < a0.length) (if (decide ((rd a0 x46) = (rd a0 x24))) = true then (some (Sum.inr (Sum.inr ()))) else (some (Sum.inl (IntKind.i64.wrap (x46 + (1 : Int)))))))) else (some (Sum.inr (Sum.inl ()))))
noncomputable def f_ref05_Brokers_l0 (a0 : (List Int)) (s_ : Int) : Option (Int ⊕ (Unit ⊕ Unit)) :=
  match s_ with
  | x24 =>
    (if (decide (x24 < (a0.length : Int))) = true then (((((grd (0 ≤ x24 ∧ x24 < a0.length) (if (decide ((rd a0 x24) < (1 : Int))) = true then (some true) else (grd (0 ≤ x24 ∧ x24 < a0.length) (some (decide ((64 : Int) < (rd a0 x24))))))) : Option Bool).bind fun x27 => (if x27 = true then (((some (Sum.inr (Sum.inr ())))).bind fun r => some (Sum.inr r)) else ((iter (f_ref05_Brokers_l1 a0 x24) (0 : Int)).bind (Sum.elim (fun _ => (some (Sum.inl ()))) (fun _ => (((some (Sum.inr (Sum.inr ())))).bind fun r => some (Sum.inr r))))))) : Option (Unit ⊕ (Int ⊕ (Unit ⊕ Unit)))).bind (Sum.elim (fun _ => (some (Sum.inl (IntKind.i64.wrap (x24 + (1 : Int)))))) some)) else (some (Sum.inr (Sum.inl ()))))
noncomputable def f_ref05_Brokers (a0 : (List Int)) : Option Bool :=
  (if (decide ((7 : Int) < (a0.length : Int))) = true then (some false) else ((((iter (f_ref05_Brokers_l0 a0) (0 : Int)).bind (Sum.elim (fun _ => (some (Sum.inl ()))) (fun _ => (((some false)).bind fun r => some (Sum.inr r))))) : Option (Unit ⊕ Bool)).bind (Sum.elim (fun _ => (some true)) some)))
def f_ref05_Brokers_post (a0 : (List Int)) (v0 : Value) : Bool → Value → IM → HL → Prop :=
  fun (r0 : Bool) (v : Value) (M' : IM) (H' : HL) => (.bool r0) = v ∧ H' = []
theorem f_ref05_Brokers_ok (a0 : (List Int)) (M : IM) (v0 : Value) (h0 : RS (Kd.int .i64) M v0 a0) (res : Bool) (h : f_ref05_Brokers a0 = some res) :
    Tri Tryz.prog 136 #[v0] M [] (f_ref05_Brokers_post a0 v0 res) := by
 unfold f_ref05_Brokers at h
 refine Te Tryz.func136 rfl rfl ?_
 intro F ρ hρ
 refine Sr (qa (Bv false) (Nt (Cs (Sr (qM v0 (hρ 0) (qu (Iv (a0.length : Int)) (PO.lenS Tryz.underlying56 rfl h0.len) (qu (Bv (decide ((7 : Int) < (a0.length : Int)))) (PO.gtr rfl rfl) (Nt (Cd (b := decide ((7 : Int) < (a0.length : Int))) rfl (fun hb21 => ?_) (fun hb21 => ?_))))))))))
 have h := ite_t hb21 h
 exact Sr (qa (Bv false) (Nt (Cr (Tr (Rf h [] rfl (Rs rfl rfl) lr ⟨rfl, rfl⟩)))))
 have h := ite_f hb21 h
 refine Ck (Tc ?_)
 obtain ⟨j22, hj22, h⟩ := bnd h
 refine WC.joinE (fun (_ : Unit) ρ' M' H' => M.le M' ∧ F = H') j22 ?_ ?_
 have h322 := h
 have h := hj22
 refine Sr (qa (Iv 0) (Nt (Bk ?_)))
 obtain ⟨e23, he23, hK23⟩ := bnd h
 clear h
 refine WC.loop he23 (fun (x24 : Int) ρ' M' H' => M.le M' ∧ F = H' ∧ ρ' 0 = v0 ∧ ρ' 3 = (Iv x24)) ?_ ?_
 exact ⟨lr, rfl, (hρ 0), rfl⟩
 rintro x24 o23 ρ23 M23 H23 h ⟨hle23, rfl, hs23_0, hs23_3⟩
 unfold f_ref05_Brokers_l0 at h
 refine Cs (Sr (qM (Iv x24) hs23_3 (qM v0 hs23_0 ?_)))
 have h0 := h0.mono hle23
 refine qu (Iv (a0.length : Int)) (PO.lenS Tryz.underlying56 rfl h0.len) (qu (Bv (decide (x24 < (a0.length : Int)))) (PO.lss rfl rfl) (Nt (Cd (b := decide (x24 < (a0.length : Int))) rfl (fun hb25 => ?_) (fun hb25 => ?_))))
 have h := ite_t hb25 h
 refine Ck (Tc ?_)
 obtain ⟨j26, hj26, h⟩ := bnd h
 refine WC.joinE (fun (_ : Unit) ρ' M' H' => M23.le M' ∧ F = H' ∧ ρ' 0 = v0 ∧ ρ' 3 = (Iv x24)) j26 ?_ ?_
 have h326 := h
 have h := hj26
 refine Bk (Cs ?_)
 obtain ⟨x27, hj28, h⟩ := bnd h
 refine Jf (fun (x27 : Bool) ρ' M' H' => M23.le M' ∧ F = H' ∧ ρ' 0 = v0 ∧ ρ' 3 = (Iv x24) ∧ ρ' 25 = (Bv x27)) x27 ?_ ?_
 have h := hj28
 refine Cg (qM v0 hs23_0 (qM (Iv x24) hs23_3 ?_))
 obtain ⟨hg29, h⟩ := grd_i h
 obtain ⟨p30, cs31, hat32, hrc33, hhas34⟩ := h0.at hg29.1 hg29.2 (by decide)
 obtain rfl := hrc33
 refine qu (.pointer (some p30)) (PO.indexAddr (n := a0.length) Tryz.underlying56 sz3 rfl rfl hg29.1 hg29.2 hat32) (qu (Iv (rd a0 x24)) (PO.loadM pl3 rfl (IM.has0 hhas34)) (qu (Bv (decide ((rd a0 x24) < 1))) (PO.lss rfl rfl) (qm (Bv (decide ((rd a0 x24) < 1))) ?_)))
 rcases Bt (decide ((rd a0 x24) < 1)) with hb36 | hb36
 have h := ite_t hb36 h
 iterate 5 refine Of 19 rfl rfl hb36 rfl ?_
 refine qu (Bv true) (Pt rfl hb36 rfl) (Wz ?_)
 obtain rfl := oi h
 exact Tj ⟨lr, rfl, hs23_0, hs23_3, rfl⟩
 have h := ite_f hb36 h
 refine On 19 rfl rfl hb36 (qM v0 hs23_0 (On 19 rfl rfl hb36 (qM (Iv x24) hs23_3 (On 19 rfl rfl hb36 ?_))))
 obtain ⟨hg37, h⟩ := grd_i h
 obtain ⟨p38, cs39, hat40, hrc41, hhas42⟩ := h0.at hg37.1 hg37.2 (by decide)
 obtain rfl := hrc41
 refine qu (.pointer (some p38)) (PO.indexAddr (n := a0.length) Tryz.underlying56 sz3 rfl rfl hg37.1 hg37.2 hat40) (qo 19 hb36 (Iv (rd a0 x24)) (PO.loadM pl3 rfl (IM.has0 hhas42)) (qo 19 hb36 (Bv (decide ((64 : Int) < (rd a0 x24)))) (PO.gtr rfl rfl) (qu (Bv (decide ((64 : Int) < (rd a0 x24)))) (Pf rfl hb36 rfl) (Wz ?_))))
 obtain rfl := oi h
 exact Tj ⟨lr, rfl, hs23_0, hs23_3, rfl⟩
 rintro ρ28 M28 H28 ⟨hle28, rfl, hs28_0, hs28_3, hs28_25⟩
 refine Cd (b := x27) hs28_25 (fun hb44 => ?_) (fun hb44 => ?_)
 have h := ite_t hb44 h
 refine Sr (qa (Bv false) (Nt (Cr (Tr (Br (Tr ?_))))))
 have h := KK.early h h326
 refine WQ.leaveR (Sum.inr ()) (oi h).symm (fun heq23 => ?_)
 subst heq23
 have h := (elimR hK23)
 refine Br (Tr ?_)
 have h := KK.early h h322
 exact Rf h [] rfl (Rs rfl rfl) (hle23.trans hle28) ⟨rfl, rfl⟩
 have h := ite_f hb44 h
 refine Ck (Tc (Sr (qa (Iv 0) (Nt (Bk ?_)))))
 obtain ⟨e45, he45, hK45⟩ := bnd h
 clear h
 refine WC.loop he45 (fun (x46 : Int) ρ' M' H' => M28.le M' ∧ F = H' ∧ ρ' 0 = v0 ∧ ρ' 3 = (Iv x24) ∧ ρ' 4 = (Iv x46)) ?_ ?_
 exact ⟨lr, rfl, hs28_0, hs28_3, rfl⟩
 rintro x46 o45 ρ45 M45 H45 h ⟨hle45, rfl, hs45_0, hs45_3, hs45_4⟩
 unfold f_ref05_Brokers_l1 at h
 refine Cs (Sr (qM (Iv x46) hs45_4 (qM (Iv x24) hs45_3 (qu (Bv (decide (x46 < x24))) (PO.lss rfl rfl) (Nt (Cd (b := decide (x46 < x24)) rfl (fun hb47 => ?_) (fun hb47 => ?_)))))))
 have h := ite_t hb47 h
 refine Ck (Tc (Cs (Bk (Cs (WC.draw [0, 0, 3, 7, 0, 0, 48, 112, 255] (.pure 0 (.pure 1 (.pure 2 (.pure 3 (.pure 4 (.pure 5 (.pure 6 (.pure 7 (.pure 8 .done))))))))) mixed (by kernel_rfl) (qt v0 rfl (Mv hs45_0) (qt (Iv x46) rfl (Mv hs45_4) ?_)))))))
 obtain ⟨hg48, h⟩ := grd_i h
 have h0 := h0.mono (hle28.trans hle45)
 obtain ⟨p49, cs50, hat51, hrc52, hhas53⟩ := h0.at hg48.1 hg48.2 (by decide)
 obtain rfl := hrc52
 refine qt (.pointer (some p49)) rfl (PO.indexAddr (n := a0.length) Tryz.underlying56 sz3 rfl rfl hg48.1 hg48.2 hat51) (qt (Iv (rd a0 x46)) rfl (PO.loadM pl3 rfl (IM.has0 hhas53)) (qt v0 rfl (Mv hs45_0) (qt (Iv x24) rfl (Mv hs45_3) ?_)))
 obtain ⟨hg55, h⟩ := grd_i h
 obtain ⟨p56, cs57, hat58, hrc59, hhas60⟩ := h0.at hg55.1 hg55.2 (by decide)
 obtain rfl := hrc59
 refine qt (.pointer (some p56)) rfl (PO.indexAddr (n := a0.length) Tryz.underlying56 sz3 rfl rfl hg55.1 hg55.2 hat58) (qt (Iv (rd a0 x24)) rfl (PO.loadM pl3 rfl (IM.has0 hhas60)) (qt (Bv (decide ((rd a0 x46) = (rd a0 x24)))) rfl (PO.eql rfl rfl) (Ti (Tc (Cd (b := decide ((rd a0 x46) = (rd a0 x24))) rfl (fun hb62 => ?_) (fun hb62 => ?_))))))
 have h := ite_t hb62 h
 refine Sr (qa (Bv false) (Nt (Cr (Br (Tr (WQ.leaveR (Sum.inr ()) (oi h).symm (fun heq45 => ?_)))))))
 subst heq45
 have h := (elimR hK45)
 refine Br (Br (Tr ?_))
 have h := KK.early h h326
 refine WQ.leaveR (Sum.inr ()) (oi h).symm (fun heq23 => ?_)
 subst heq23
 have h := (elimR hK23)
 refine Br (Tr ?_)
 have h := KK.early h h322
 exact Rf h [] rfl (Rs rfl rfl) ((hle23.trans hle28).trans hle45) ⟨rfl, rfl⟩
 have h := ite_f hb62 h
 exact Ck (Bn (Tc (Cg (qM (Iv x46) hs45_4 (qu (Iv (IntKind.i64.wrap (x46 + 1))) (PO.add rfl rfl) (qa (Iv (IntKind.i64.wrap (x46 + 1))) (Wz (WQ.again (IntKind.i64.wrap (x46 + 1)) (oi h).symm ⟨hle45, rfl, hs45_0, hs45_3, rfl⟩))))))))
 have h := ite_f hb47 h
 refine WC.exit (WQ.thenE (WQ.leaveE (Sum.inl ()) (oi h).symm (fun heq45 => ?_)))
 subst heq45
 have h := elimL hK45
 exact WQ.blockH (Bn (WQ.thenFE h ⟨(hle28.trans hle45), rfl, hs45_0, hs45_3⟩))
 rintro _ ρ26 M26 H26 rfl ⟨hle26, rfl, hs26_0, hs26_3⟩
 have h := (Sum.elim_inl _ _ _).symm.trans h
 exact Cg (qM (Iv x24) hs26_3 (qu (Iv (IntKind.i64.wrap (x24 + 1))) (PO.add rfl rfl) (qa (Iv (IntKind.i64.wrap (x24 + 1))) (Wz (WQ.again (IntKind.i64.wrap (x24 + 1)) (oi h).symm ⟨(hle23.trans hle26), rfl, hs26_0, rfl⟩)))))
 have h := ite_f hb25 h
 refine WC.exit (WQ.thenE (WQ.leaveE (Sum.inl ()) (oi h).symm (fun heq23 => ?_)))
 subst heq23
 have h := elimL hK23
 exact WQ.blockH (WQ.thenFE h ⟨hle23, rfl⟩)
 rintro _ ρ22 M22 H22 rfl ⟨hle22, rfl⟩
 have h := (Sum.elim_inl _ _ _).symm.trans h
 exact Sr (qa (Bv true) (Nt (Cr (Rf h [] rfl (Rs rfl rfl) hle22 ⟨rfl, rfl⟩))))

noncomputable def f_ref05_row (a0 : (List Int)) (a1 : Bool) : Option Bool :=
  (if a1 = true then ((f_ref05_Brokers a0).bind fun r22 => (some r22)) else (some (decide ((a0.length : Int) = (0 : Int)))))
def f_ref05_row_post (a0 : (List Int)) (a1 : Bool) (v0 : Value) : Bool → Value → IM → HL → Prop :=
  fun (r0 : Bool) (v : Value) (M' : IM) (H' : HL) => (.bool r0) = v ∧ H' = []
theorem f_ref05_row_ok (a0 : (List Int)) (a1 : Bool) (M : IM) (v0 : Value) (h0 : RS (Kd.int .i64) M v0 a0) (res : Bool) (h : f_ref05_row a0 a1 = some res) :
    Tri Tryz.prog 107 #[v0, (Bv a1)] M [] (f_ref05_row_post a0 a1 v0 res) := by
 unfold f_ref05_row at h
 refine Te Tryz.func107 rfl rfl ?_
 intro F ρ hρ
 refine Sr (qa (Bv false) (Nt (Cs (Sr (qM (Bv a1) (hρ 1) (Nt (Cd (b := a1) rfl (fun hb21 => ?_) (fun hb21 => ?_))))))))
 have h := ite_t hb21 h
 refine Sr (qM v0 (hρ 0) ?_)
 obtain ⟨r22, hr23, h⟩ := bnd h
 refine We (Ca co136 (f_ref05_Brokers_ok a0 _ _ h0 r22 hr23) (args1 rfl)) rfl ?_
 rintro _ M24 _ hle25 ⟨_, ⟨rfl, rfl⟩, rfl⟩
 exact WL.a0 (qa (Bv r22) (Nt (Cr (Tr (Rf h [] rfl (Rs rfl rfl) hle25 ⟨rfl, rfl⟩)))))
 have h := ite_f hb21 h
 exact Ck (Tc (Sr (qM v0 (hρ 0) (qu (Iv (a0.length : Int)) (PO.lenS Tryz.underlying56 rfl h0.len) (qu (Bv (decide ((a0.length : Int) = (0 : Int)))) (PO.eql rfl rfl) (qa (Bv (decide ((a0.length : Int) = (0 : Int)))) (Nt (Cr (Rf h [] rfl (Rs rfl rfl) lr ⟨rfl, rfl⟩)))))))))

noncomputable def f_ref05_Check (a0 : T_api_Record) : Option T_ref05_Wrong :=
  (((if (decide (a0.Kind < (1 : Int))) = true then (some true) else (some (decide ((12 : Int) < a0.Kind)))) : Option Bool).bind fun x23 => (if x23 = true then (some (⟨(⟨#[107, 105, 110, 100]⟩ : ByteArray), a0.Kind, (5 : Int)⟩ : T_ref05_Wrong)) else ((f_ref05_numbers a0).bind fun r27 => (if (decide (r27.Code ≠ (0 : Int))) = true then (some r27) else (((if a0.Flag = true then ((f_ref05_has a0.Kind (102 : Int)).bind fun r37 => (some (!r37))) else (some false)) : Option Bool).bind fun x34 => (if x34 = true then (some (⟨(⟨#[102, 108, 97, 103]⟩ : ByteArray), (1 : Int), (1 : Int)⟩ : T_ref05_Wrong)) else ((((f_ref05_has a0.Kind (110 : Int)).bind fun r45 => ((f_ref05_name a0.Name r45).bind fun r50 => (if (!r50) = true then (some true) else ((f_ref05_has a0.Kind (107 : Int)).bind fun r56 => ((f_ref05_name a0.Key r56).bind fun r61 => (if (!r61) = true then (some true) else ((f_ref05_has a0.Kind (114 : Int)).bind fun r67 => ((f_ref05_name a0.Rack r67).bind fun r72 => (some (!r72)))))))))) : Option Bool).bind fun x43 => (if x43 = true then (some (⟨(⟨#[110, 97, 109, 101]⟩ : ByteArray), (a0.Name.size : Int), (1 : Int)⟩ : T_ref05_Wrong)) else (((if (decide ((256 : Int) < (a0.Value.size : Int))) = true then (some true) else (if (!decide (a0.Value = (⟨#[]⟩ : ByteArray))) = true then (if a0.Flag = true then (some true) else ((f_ref05_has a0.Kind (118 : Int)).bind fun r83 => (some (!r83)))) else (some false))) : Option Bool).bind fun x78 => (if x78 = true then (some (⟨(⟨#[118, 97, 108, 117, 101]⟩ : ByteArray), (a0.Value.size : Int), (6 : Int)⟩ : T_ref05_Wrong)) else ((((f_ref05_has a0.Kind (105 : Int)).bind fun r91 => ((f_ref05_row a0.Ids r91).bind fun r96 => (if (!r96) = true then (some true) else ((f_ref05_has a0.Kind (109 : Int)).bind fun r102 => ((f_ref05_row a0.Isr r102).bind fun r107 => (if (!r107) = true then (some true) else ((f_ref05_has a0.Kind (120 : Int)).bind fun r113 => ((f_ref05_row a0.Add r113).bind fun r118 => (if (!r118) = true then (some true) else ((f_ref05_has a0.Kind (120 : Int)).bind fun r124 => ((f_ref05_row a0.Drop r124).bind fun r129 => (some (!r129))))))))))))) : Option Bool).bind fun x89 => (if x89 = true then (some (⟨(⟨#[114, 111, 119]⟩ : ByteArray), (a0.Ids.length : Int), (18 : Int)⟩ : T_ref05_Wrong)) else (some lit5_)))))))))))))
def f_ref05_Check_post (a0 : T_api_Record) (v0_14 v0_15 v0_16 v0_17 : Value) : T_ref05_Wrong → Value → IM → HL → Prop :=
  fun (r0 : T_ref05_Wrong) (v : Value) (M' : IM) (H' : HL) => (.agg #[(.string r0.Op), (.int .i64 r0.At), (.int .i64 r0.Code)]) = v ∧ H' = []
theorem f_ref05_Check_ok (a0 : T_api_Record) (M : IM) (v0_14 v0_15 v0_16 v0_17 : Value) (h0_14 : RS (Kd.int .i64) M v0_14 a0.Ids) (h0_15 : RS (Kd.int .i64) M v0_15 a0.Isr) (h0_16 : RS (Kd.int .i64) M v0_16 a0.Add) (h0_17 : RS (Kd.int .i64) M v0_17 a0.Drop) (res : T_ref05_Wrong) (h : f_ref05_Check a0 = some res) :
    Tri Tryz.prog 74 #[(a58_ a0 v0_14 v0_15 v0_16 v0_17)] M [] (f_ref05_Check_post a0 v0_14 v0_15 v0_16 v0_17 res) := by
 unfold f_ref05_Check at h
 refine Te Tryz.func74 rfl rfl ?_
 intro F ρ hρ
 refine Sr (We (EO.box (cs := (l58 a0 v0_14 v0_15 v0_16 v0_17).toArray) (congrArg Value.cells (asE (a58_ a0 v0_14 v0_15 v0_16 v0_17) (hρ 0)))) rfl ?_)
 rintro _ _ _ - ⟨rfl, g21, rfl, rfl⟩
 refine We (Al ze40 rfl) rfl ?_
 rintro _ _ _ - ⟨rfl, g22, rfl, rfl⟩
 refine Ns (qu (pt g21 0) (Fa fo58_0 rfl rfl) (qu (Iv a0.Kind) (Lb 1 pl3 rfl rfl rfl) (qa (Iv a0.Kind) (Nt (Cs ?_)))))
 obtain ⟨x23, hj24, h⟩ := bnd h
 refine Jf (fun (x23 : Bool) ρ' M' H' => M.le M' ∧ [(g22, .cells #[(Sv ⟨#[]⟩), (Iv 0), (Iv 0)] 40 (0, 0))] :: [(g21, .cells (l58 a0 v0_14 v0_15 v0_16 v0_17).toArray 58 (0, 0))] :: F = H' ∧ ρ' 1 = (pt g21 0) ∧ ρ' 2 = (pt g22 0) ∧ ρ' 3 = (Iv a0.Kind) ∧ ρ' 12 = (Bv x23)) x23 ?_ ?_
 have h := hj24
 refine Cg (qm (Iv a0.Kind) (qu (Bv (decide (a0.Kind < 1))) (PO.lss rfl rfl) (qm (Bv (decide (a0.Kind < 1))) ?_)))
 rcases Bt (decide (a0.Kind < 1)) with hb25 | hb25
 have h := ite_t hb25 h
 iterate 2 refine Of 9 rfl rfl hb25 rfl ?_
 refine qu (Bv true) (Pt rfl hb25 rfl) (Wz ?_)
 obtain rfl := oi h
 exact Tj ⟨lr, rfl, rfl, rfl, rfl, rfl⟩
 have h := ite_f hb25 h
 refine On 9 rfl rfl hb25 (qm (Iv a0.Kind) (qo 9 hb25 (Bv (decide ((12 : Int) < a0.Kind))) (PO.gtr rfl rfl) (qu (Bv (decide ((12 : Int) < a0.Kind))) (Pf rfl hb25 rfl) (Wz ?_))))
 obtain rfl := oi h
 exact Tj ⟨lr, rfl, rfl, rfl, rfl, rfl⟩
 rintro ρ24 M24 H24 ⟨hle24, rfl, hs24_1, hs24_2, hs24_3, hs24_12⟩
 refine Cd (b := x23) hs24_12 (fun hb26 => ?_) (fun hb26 => ?_)
 have h := ite_t hb26 h
 refine Sr (qM (Iv a0.Kind) hs24_3 (qu (.agg #[(Sv ⟨#[107, 105, 110, 100]⟩), (Iv a0.Kind), (Iv 5)]) (Bl (cl := [(Sv ⟨#[107, 105, 110, 100]⟩), (Iv a0.Kind), (Iv 5)]) ze40 fp40 (Pc (Sv ⟨#[107, 105, 110, 100]⟩) rfl rfl (Pc (Iv a0.Kind) rfl rfl (Pc (Iv 5) rfl rfl Pz))) rfl) (We (Sg (v := (.agg #[(Sv ⟨#[107, 105, 110, 100]⟩), (Iv a0.Kind), (Iv 5)])) (vl := [(Sv ⟨#[107, 105, 110, 100]⟩), (Iv a0.Kind), (Iv 5)]) (arr' := [(Sv ⟨#[107, 105, 110, 100]⟩), (Iv a0.Kind), (Iv 5)]) rfl sz40 hs24_2 rfl (onb rfl) rfl rfl rfl) rfl ?_)))
 rintro _ _ _ - ⟨rfl, rfl⟩
 exact Nt (Cr (Tr (Qa (Dr (Rd h [] (fun _ hs => hs.drop) (resultsL1 rfl (Rc (cs := [(Sv ⟨#[107, 105, 110, 100]⟩), (Iv a0.Kind), (Iv 5)]) 0 ag40 sz40 hs24_2 rfl rfl)) hle24 ⟨rfl, rfl⟩)))))
 have h := ite_f hb26 h
 refine Ck (Tc (Cs (Sr (qu (a58_ a0 v0_14 v0_15 v0_16 v0_17) (La (cs := (l58 a0 v0_14 v0_15 v0_16 v0_17)) 1 ag58 sz58 hs24_1 rfl rfl) ?_))))
 obtain ⟨r27, hr28, h⟩ := bnd h
 have h0_14 := h0_14.mono hle24
 have h0_15 := h0_15.mono hle24
 have h0_16 := h0_16.mono hle24
 have h0_17 := h0_17.mono hle24
 refine We (Ca co104 (f_ref05_numbers_ok a0 _ _ _ _ _ h0_14 h0_15 h0_16 h0_17 r27 hr28) (args1 rfl)) rfl ?_
 rintro _ M29 _ hle30 ⟨_, ⟨rfl, rfl⟩, rfl⟩
 refine WL.a0 (We (Al ze40 rfl) rfl ?_)
 rintro _ _ _ - ⟨rfl, g32, rfl, rfl⟩
 refine We (Sg (v := (a40_ r27)) (vl := (l40 r27)) (arr' := (l40 r27)) rfl sz40 rfl rfl (onb rfl) rfl rfl rfl) rfl ?_
 rintro _ _ _ - ⟨rfl, rfl⟩
 refine Ns (qu (pt g32 2) (Fa fo40_2 rfl rfl) (qu (Iv r27.Code) (Lb 0 pl38 rfl rfl rfl) (qu (Bv (decide (r27.Code ≠ 0))) (PO.neq rfl rfl) (Nt (Cd (b := decide (r27.Code ≠ 0)) rfl (fun hb33 => ?_) (fun hb33 => ?_))))))
 have h := ite_t hb33 h
 refine Sr (qu (a40_ r27) (La (cs := (l40 r27)) 0 ag40 sz40 rfl rfl rfl) (WL.f1 (We (Sg (v := (a40_ r27)) (vl := (l40 r27)) (arr' := (l40 r27)) rfl sz40 hs24_2 rfl (onb rfl) rfl rfl rfl) rfl ?_)))
 rintro _ _ _ - ⟨rfl, rfl⟩
 exact Nt (Cr (Tr (Qa (Dr (Qa (Dr (Rd h [] (fun _ hs => hs.drop) (resultsL1 rfl (Rc (cs := (l40 r27)) 0 ag40 sz40 hs24_2 rfl rfl)) (hle24.trans hle30) ⟨rfl, rfl⟩)))))))
 have h := ite_f hb33 h
 refine Ck (Tc (Cs ?_))
 obtain ⟨x34, hj35, h⟩ := bnd h
 refine Jf (fun (x34 : Bool) ρ' M' H' => M29.le M' ∧ [(g32, .cells (l40 r27).toArray 40 (0, 0))] :: [(g22, .cells #[(Sv ⟨#[]⟩), (Iv 0), (Iv 0)] 40 (0, 0))] :: [(g21, .cells (l58 a0 v0_14 v0_15 v0_16 v0_17).toArray 58 (0, 0))] :: F = H' ∧ ρ' 1 = (pt g21 0) ∧ ρ' 2 = (pt g22 0) ∧ ρ' 3 = (Iv a0.Kind) ∧ ρ' 27 = (Bv x34)) x34 ?_ ?_
 have h := hj35
 refine Cg (qu (pt g21 9) (Fa fo58_9 hs24_1 rfl) (qu (Bv a0.Flag) (Lb 2 pl4 rfl rfl rfl) (qm (Bv a0.Flag) ?_)))
 rcases Bt (a0.Flag) with hb36 | hb36
 have h := ite_t hb36 h
 refine On 23 rfl rfl hb36 (qM (Iv a0.Kind) hs24_3 (On 23 rfl rfl hb36 ?_))
 obtain ⟨r37, hr38, h⟩ := bnd h
 refine We (Ca co105 (f_ref05_has_ok a0.Kind (102 : Int) _ r37 hr38) (args2 rfl rfl)) rfl ?_
 rintro _ M39 _ hle40 ⟨_, ⟨rfl, rfl⟩, rfl⟩
 refine WL.a0 (qo 23 hb36 (Bv (!r37)) (PO.not rfl) (qu (Bv (!r37)) (Pt rfl hb36 rfl) (Wz ?_)))
 obtain rfl := oi h
 exact Tj ⟨hle40, rfl, hs24_1, hs24_2, hs24_3, rfl⟩
 have h := ite_f hb36 h
 iterate 3 refine Of 23 rfl rfl hb36 rfl ?_
 refine qu (Bv false) (Pf rfl hb36 rfl) (Wz ?_)
 obtain rfl := oi h
 exact Tj ⟨lr, rfl, hs24_1, hs24_2, hs24_3, rfl⟩
 rintro ρ35 M35 H35 ⟨hle35, rfl, hs35_1, hs35_2, hs35_3, hs35_27⟩
 have L35 := (hle24.trans hle30).trans hle35
 refine Cd (b := x34) hs35_27 (fun hb42 => ?_) (fun hb42 => ?_)
 have h := ite_t hb42 h
 refine Sr (qu (.agg #[(Sv ⟨#[102, 108, 97, 103]⟩), (Iv 1), (Iv 1)]) (Bl (cl := [(Sv ⟨#[102, 108, 97, 103]⟩), (Iv 1), (Iv 1)]) ze40 fp40 (Pc (Sv ⟨#[102, 108, 97, 103]⟩) rfl rfl (Pc (Iv 1) rfl rfl (Pc (Iv 1) rfl rfl Pz))) rfl) (WL.f1 (We (Sg (v := (.agg #[(Sv ⟨#[102, 108, 97, 103]⟩), (Iv 1), (Iv 1)])) (vl := [(Sv ⟨#[102, 108, 97, 103]⟩), (Iv 1), (Iv 1)]) (arr' := [(Sv ⟨#[102, 108, 97, 103]⟩), (Iv 1), (Iv 1)]) rfl sz40 hs35_2 rfl (onb rfl) rfl rfl rfl) rfl ?_)))
 rintro _ _ _ - ⟨rfl, rfl⟩
 exact Nt (Cr (Tr (Qa (Dr (Qa (Dr (Rd h [] (fun _ hs => hs.drop) (resultsL1 rfl (Rc (cs := [(Sv ⟨#[102, 108, 97, 103]⟩), (Iv 1), (Iv 1)]) 0 ag40 sz40 hs35_2 rfl rfl)) L35 ⟨rfl, rfl⟩)))))))
 have h := ite_f hb42 h
 refine Ck (Tc (Cs ?_))
 obtain ⟨x43, hj44, h⟩ := bnd h
 refine Jf (fun (x43 : Bool) ρ' M' H' => M35.le M' ∧ [(g32, .cells (l40 r27).toArray 40 (0, 0))] :: [(g22, .cells #[(Sv ⟨#[]⟩), (Iv 0), (Iv 0)] 40 (0, 0))] :: [(g21, .cells (l58 a0 v0_14 v0_15 v0_16 v0_17).toArray 58 (0, 0))] :: F = H' ∧ ρ' 1 = (pt g21 0) ∧ ρ' 2 = (pt g22 0) ∧ ρ' 3 = (Iv a0.Kind) ∧ ρ' 50 = (Bv x43)) x43 ?_ ?_
 have h := hj44
 refine WC.draw [0, 1, 0, 4, 15, 31, 63, 127, 255, 127, 639, 2047, 4095, 8191, 16383, 32767, 65535, 32767, 163839, 524287, 1048575, 2097151] (.pure 0 (.pure 1 (.pure 2 (.alt 3 (.alt 4 (.pure 5 (.pure 6 (.pure 7 (.pure 8 (.pure 9 (.alt 10 (.alt 11 (.pure 12 (.pure 13 (.pure 14 (.pure 15 (.pure 16 (.pure 17 (.alt 18 (.alt 19 (.pure 20 (.pure 21 .done)) .none) .none))))))) .none) .none)))))) .none) .none)))) mixed (by kernel_rfl) (qt (pt g21 10) rfl (Fa fo58_10 hs35_1 rfl) (qt (Sv a0.Name) rfl (Lb 2 pl9 rfl rfl rfl) (qt (Iv a0.Kind) rfl (Mv hs35_3) ?_)))
 obtain ⟨r45, hr46, h⟩ := bnd h
 refine Ta rfl (Ca co105 (f_ref05_has_ok a0.Kind (110 : Int) _ r45 hr46) (args2 rfl rfl)) rfl ?_ ?_
 rintro _ M47 _ hle48 ⟨_, ⟨rfl, rfl⟩, rfl⟩
 refine ⟨(Sk 1 rfl (Ss rfl (Lb 2 pl9 rfl rfl rfl) rfl (Ss rfl (Fa fo58_10 hs35_1 rfl) rfl trivial))), ?_⟩
 refine WT.a0 ?_
 obtain ⟨r50, hr51, h⟩ := bnd h
 refine Ta rfl (Ca co106 (f_ref05_name_ok a0.Name r45 _ r50 hr51) (args2 rfl rfl)) rfl ?_ ?_
 rintro _ M52 _ hle53 ⟨_, ⟨rfl, rfl⟩, rfl⟩
 refine ⟨(Sl rfl), ?_⟩
 refine WT.a0 (qt (Bv (!r50)) rfl (PO.not rfl) (qt (Bv (!r50)) rfl (Mv rfl) ?_))
 rcases Bt (!r50) with hb55 | hb55
 have h := ite_t hb55 h
 refine Tf 35 rfl rfl rfl hb55 rfl (Tf 35 rfl rfl rfl hb55 rfl (Tf 35 rfl rfl rfl hb55 rfl (Tg 35 rfl rfl rfl hb55 rfl ⟨(Sk 1 rfl (St (Sf 35 rfl rfl rfl hb55 rfl) (St (Sf 35 rfl rfl rfl hb55 rfl) (Sl rfl)))), ?_⟩ ?_)))
 refine Tg 35 rfl rfl rfl hb55 rfl ⟨(Sl rfl), ?_⟩ ?_
 refine Tf 35 rfl rfl rfl hb55 rfl (qt (Bv true) rfl (Pt rfl hb55 rfl) (qt (Bv true) rfl (Mv rfl) (Tf 43 rfl rfl rfl rfl rfl (Tf 43 rfl rfl rfl rfl rfl (Tf 43 rfl rfl rfl rfl rfl (Tg 43 rfl rfl rfl rfl rfl ⟨(Sk 1 rfl (St (Sf 43 rfl rfl rfl rfl rfl) (St (Sf 43 rfl rfl rfl rfl rfl) (Sl rfl)))), ?_⟩ ?_))))))
 refine Tg 43 rfl rfl rfl rfl rfl ⟨(Sl rfl), ?_⟩ ?_
 refine Tf 43 rfl rfl rfl rfl rfl (qt (Bv true) rfl (Pt rfl rfl rfl) (Ti ?_))
 obtain rfl := oi h
 exact Tj ⟨(hle48.trans hle53), rfl, hs35_1, hs35_2, hs35_3, rfl⟩
 exact Tz
 exact Tz
 exact Tz
 exact Tz
 have h := ite_f hb55 h
 refine Tn (pt g21 11) 35 rfl rfl rfl hb55 (Fa fo58_11 hs35_1 rfl) rfl (Tn (Sv a0.Key) 35 rfl rfl rfl hb55 (Lb 2 pl9 rfl rfl rfl) rfl (Tn (Iv a0.Kind) 35 rfl rfl rfl hb55 (Mv hs35_3) rfl ?_))
 obtain ⟨r56, hr57, h⟩ := bnd h
 refine WT.altOn 35 rfl rfl rfl hb55 (Ca co105 (f_ref05_has_ok a0.Kind (107 : Int) _ r56 hr57) (args2 rfl rfl)) rfl ?_ ?_
 rintro _ M58 _ hle59 ⟨_, ⟨rfl, rfl⟩, rfl⟩
 refine ⟨(Sk 1 rfl (St (StabA.on 35 rfl rfl rfl hb55 (Lb 2 pl9 rfl rfl rfl) rfl) (St (StabA.on 35 rfl rfl rfl hb55 (Fa fo58_11 hs35_1 rfl) rfl) (Sl rfl)))), ?_⟩
 refine WT.a0 ?_
 obtain ⟨r61, hr62, h⟩ := bnd h
 refine WT.altOn 35 rfl rfl rfl hb55 (Ca co106 (f_ref05_name_ok a0.Key r56 _ r61 hr62) (args2 rfl rfl)) rfl ?_ ?_
 rintro _ M63 _ hle64 ⟨_, ⟨rfl, rfl⟩, rfl⟩
 refine ⟨(Sl rfl), ?_⟩
 refine WT.a0 (Tn (Bv (!r61)) 35 rfl rfl rfl hb55 (PO.not rfl) rfl (qt (Bv (!r61)) rfl (Pf rfl hb55 rfl) (qt (Bv (!r61)) rfl (Mv rfl) ?_)))
 rcases Bt (!r61) with hb66 | hb66
 have h := ite_t hb66 h
 refine Tf 43 rfl rfl rfl hb66 rfl (Tf 43 rfl rfl rfl hb66 rfl (Tf 43 rfl rfl rfl hb66 rfl (Tg 43 rfl rfl rfl hb66 rfl ⟨(Sk 1 rfl (St (Sf 43 rfl rfl rfl hb66 rfl) (St (Sf 43 rfl rfl rfl hb66 rfl) (Sl rfl)))), ?_⟩ ?_)))
 refine Tg 43 rfl rfl rfl hb66 rfl ⟨(Sl rfl), ?_⟩ ?_
 refine Tf 43 rfl rfl rfl hb66 rfl (qt (Bv true) rfl (Pt rfl hb66 rfl) (Ti ?_))
 obtain rfl := oi h
 exact Tj ⟨(((hle48.trans hle53).trans hle59).trans hle64), rfl, hs35_1, hs35_2, hs35_3, rfl⟩
 exact Tz
 exact Tz
 have h := ite_f hb66 h
 refine Tn (pt g21 13) 43 rfl rfl rfl hb66 (Fa fo58_13 hs35_1 rfl) rfl (Tn (Sv a0.Rack) 43 rfl rfl rfl hb66 (Lb 2 pl9 rfl rfl rfl) rfl (Tn (Iv a0.Kind) 43 rfl rfl rfl hb66 (Mv hs35_3) rfl ?_))
 obtain ⟨r67, hr68, h⟩ := bnd h
 refine WT.altOn 43 rfl rfl rfl hb66 (Ca co105 (f_ref05_has_ok a0.Kind (114 : Int) _ r67 hr68) (args2 rfl rfl)) rfl ?_ ?_
 rintro _ M69 _ hle70 ⟨_, ⟨rfl, rfl⟩, rfl⟩
 refine ⟨(Sk 1 rfl (St (StabA.on 43 rfl rfl rfl hb66 (Lb 2 pl9 rfl rfl rfl) rfl) (St (StabA.on 43 rfl rfl rfl hb66 (Fa fo58_13 hs35_1 rfl) rfl) (Sl rfl)))), ?_⟩
 refine WT.a0 ?_
 obtain ⟨r72, hr73, h⟩ := bnd h
 refine WT.altOn 43 rfl rfl rfl hb66 (Ca co106 (f_ref05_name_ok a0.Rack r67 _ r72 hr73) (args2 rfl rfl)) rfl ?_ ?_
 rintro _ M74 _ hle75 ⟨_, ⟨rfl, rfl⟩, rfl⟩
 refine ⟨(Sl rfl), ?_⟩
 refine WT.a0 (Tn (Bv (!r72)) 43 rfl rfl rfl hb66 (PO.not rfl) rfl (qt (Bv (!r72)) rfl (Pf rfl hb66 rfl) (Ti ?_)))
 obtain rfl := oi h
 exact Tj ⟨(((((hle48.trans hle53).trans hle59).trans hle64).trans hle70).trans hle75), rfl, hs35_1, hs35_2, hs35_3, rfl⟩
 exact Tz
 exact Tz
 exact Tz
 exact Tz
 exact Tz
 exact Tz
 rintro ρ44 M44 H44 ⟨hle44, rfl, hs44_1, hs44_2, hs44_3, hs44_50⟩
 have L44 := (hle30.trans hle35).trans hle44
 have L44_1 := L35.trans hle44
 refine Cd (b := x43) hs44_50 (fun hb77 => ?_) (fun hb77 => ?_)
 have h := ite_t hb77 h
 refine Sr (qu (pt g21 10) (Fa fo58_10 hs44_1 rfl) (qu (Sv a0.Name) (Lb 2 pl9 rfl rfl rfl) (qu (Iv (a0.Name.size : Int)) (PO.lenStr Tryz.underlying9 rfl) (qu (.agg #[(Sv ⟨#[110, 97, 109, 101]⟩), (Iv (a0.Name.size : Int)), (Iv 1)]) (Bl (cl := [(Sv ⟨#[110, 97, 109, 101]⟩), (Iv (a0.Name.size : Int)), (Iv 1)]) ze40 fp40 (Pc (Sv ⟨#[110, 97, 109, 101]⟩) rfl rfl (Pc (Iv (a0.Name.size : Int)) rfl rfl (Pc (Iv 1) rfl rfl Pz))) rfl) (WL.f1 (We (Sg (v := (.agg #[(Sv ⟨#[110, 97, 109, 101]⟩), (Iv (a0.Name.size : Int)), (Iv 1)])) (vl := [(Sv ⟨#[110, 97, 109, 101]⟩), (Iv (a0.Name.size : Int)), (Iv 1)]) (arr' := [(Sv ⟨#[110, 97, 109, 101]⟩), (Iv (a0.Name.size : Int)), (Iv 1)]) rfl sz40 hs44_2 rfl (onb rfl) rfl rfl rfl) rfl ?_))))))
 rintro _ _ _ - ⟨rfl, rfl⟩
 exact Nt (Cr (Tr (Qa (Dr (Qa (Dr (Rd h [] (fun _ hs => hs.drop) (resultsL1 rfl (Rc (cs := [(Sv ⟨#[110, 97, 109, 101]⟩), (Iv (a0.Name.size : Int)), (Iv 1)]) 0 ag40 sz40 hs44_2 rfl rfl)) L44_1 ⟨rfl, rfl⟩)))))))
 have h := ite_f hb77 h
 refine Ck (Tc (Cs ?_))
 obtain ⟨x78, hj79, h⟩ := bnd h
 refine Jf (fun (x78 : Bool) ρ' M' H' => M44.le M' ∧ [(g32, .cells (l40 r27).toArray 40 (0, 0))] :: [(g22, .cells #[(Sv ⟨#[]⟩), (Iv 0), (Iv 0)] 40 (0, 0))] :: [(g21, .cells (l58 a0 v0_14 v0_15 v0_16 v0_17).toArray 58 (0, 0))] :: F = H' ∧ ρ' 1 = (pt g21 0) ∧ ρ' 2 = (pt g22 0) ∧ ρ' 3 = (Iv a0.Kind) ∧ ρ' 72 = (Bv x78)) x78 ?_ ?_
 have h := hj79
 refine Cg (qu (pt g21 12) (Fa fo58_12 hs44_1 rfl) (qu (Sv a0.Value) (Lb 2 pl9 rfl rfl rfl) (qu (Iv (a0.Value.size : Int)) (PO.lenStr Tryz.underlying9 rfl) (qu (Bv (decide ((256 : Int) < (a0.Value.size : Int)))) (PO.gtr rfl rfl) (qm (Bv (decide ((256 : Int) < (a0.Value.size : Int)))) ?_)))))
 rcases Bt (decide ((256 : Int) < (a0.Value.size : Int))) with hb80 | hb80
 have h := ite_t hb80 h
 iterate 4 refine Of 59 rfl rfl hb80 rfl ?_
 refine WL.offU 63 rfl rfl rfl (WL.offU 63 rfl rfl rfl (WL.offU 63 rfl rfl rfl (WL.offU 66 rfl rfl rfl (WL.offU 66 rfl rfl rfl (WL.offU 66 rfl rfl rfl (WL.offU 63 rfl rfl rfl (Of 59 rfl rfl hb80 rfl (qu (Bv true) (Pt rfl hb80 rfl) (Wz ?_)))))))))
 obtain rfl := oi h
 exact Tj ⟨lr, rfl, hs44_1, hs44_2, hs44_3, rfl⟩
 have h := ite_f hb80 h
 refine qo 59 hb80 (pt g21 12) (Fa fo58_12 hs44_1 rfl) (qo 59 hb80 (Sv a0.Value) (Lb 2 pl9 rfl rfl rfl) (qo 59 hb80 (Bv (!decide (a0.Value = (⟨#[]⟩ : ByteArray)))) (PO.sneq rfl rfl) (On 59 rfl rfl hb80 (qm (Bv (!decide (a0.Value = (⟨#[]⟩ : ByteArray)))) ?_))))
 rcases Bt (!decide (a0.Value = (⟨#[]⟩ : ByteArray))) with hb81 | hb81
 have h := ite_t hb81 h
 refine qo 63 hb81 (pt g21 9) (Fa fo58_9 hs44_1 rfl) (qo 63 hb81 (Bv a0.Flag) (Lb 2 pl4 rfl rfl rfl) (On 63 rfl rfl hb81 (qm (Bv a0.Flag) ?_)))
 rcases Bt (a0.Flag) with hb82 | hb82
 have h := ite_t hb82 h
 iterate 3 refine Of 66 rfl rfl hb82 rfl ?_
 refine qo 63 hb81 (Bv true) (Pt rfl hb82 rfl) (qo 59 hb80 (Bv true) (Pt rfl hb81 rfl) (qu (Bv true) (Pf rfl hb80 rfl) (Wz ?_)))
 obtain rfl := oi h
 exact Tj ⟨lr, rfl, hs44_1, hs44_2, hs44_3, rfl⟩
 have h := ite_f hb82 h
 refine On 66 rfl rfl hb82 (qM (Iv a0.Kind) hs44_3 (On 66 rfl rfl hb82 ?_))
 obtain ⟨r83, hr84, h⟩ := bnd h
 refine We (Ca co105 (f_ref05_has_ok a0.Kind (118 : Int) _ r83 hr84) (args2 rfl rfl)) rfl ?_
 rintro _ M85 _ hle86 ⟨_, ⟨rfl, rfl⟩, rfl⟩
 refine WL.a0 (qo 66 hb82 (Bv (!r83)) (PO.not rfl) (qo 63 hb81 (Bv (!r83)) (Pf rfl hb82 rfl) (qo 59 hb80 (Bv (!r83)) (Pt rfl hb81 rfl) (qu (Bv (!r83)) (Pf rfl hb80 rfl) (Wz ?_)))))
 obtain rfl := oi h
 exact Tj ⟨hle86, rfl, hs44_1, hs44_2, hs44_3, rfl⟩
 have h := ite_f hb81 h
 iterate 3 refine Of 63 rfl rfl hb81 rfl ?_
 refine WL.offU 66 rfl rfl rfl (WL.offU 66 rfl rfl rfl (WL.offU 66 rfl rfl rfl (Of 63 rfl rfl hb81 rfl (qo 59 hb80 (Bv false) (Pf rfl hb81 rfl) (qu (Bv false) (Pf rfl hb80 rfl) (Wz ?_))))))
 obtain rfl := oi h
 exact Tj ⟨lr, rfl, hs44_1, hs44_2, hs44_3, rfl⟩
 rintro ρ79 M79 H79 ⟨hle79, rfl, hs79_1, hs79_2, hs79_3, hs79_72⟩
 have L79 := L44.trans hle79
 have L79_1 := L44_1.trans hle79
 refine Cd (b := x78) hs79_72 (fun hb88 => ?_) (fun hb88 => ?_)
 have h := ite_t hb88 h
 refine Sr (qu (pt g21 12) (Fa fo58_12 hs79_1 rfl) (qu (Sv a0.Value) (Lb 2 pl9 rfl rfl rfl) (qu (Iv (a0.Value.size : Int)) (PO.lenStr Tryz.underlying9 rfl) (qu (.agg #[(Sv ⟨#[118, 97, 108, 117, 101]⟩), (Iv (a0.Value.size : Int)), (Iv 6)]) (Bl (cl := [(Sv ⟨#[118, 97, 108, 117, 101]⟩), (Iv (a0.Value.size : Int)), (Iv 6)]) ze40 fp40 (Pc (Sv ⟨#[118, 97, 108, 117, 101]⟩) rfl rfl (Pc (Iv (a0.Value.size : Int)) rfl rfl (Pc (Iv 6) rfl rfl Pz))) rfl) (WL.f1 (We (Sg (v := (.agg #[(Sv ⟨#[118, 97, 108, 117, 101]⟩), (Iv (a0.Value.size : Int)), (Iv 6)])) (vl := [(Sv ⟨#[118, 97, 108, 117, 101]⟩), (Iv (a0.Value.size : Int)), (Iv 6)]) (arr' := [(Sv ⟨#[118, 97, 108, 117, 101]⟩), (Iv (a0.Value.size : Int)), (Iv 6)]) rfl sz40 hs79_2 rfl (onb rfl) rfl rfl rfl) rfl ?_))))))
 rintro _ _ _ - ⟨rfl, rfl⟩
 exact Nt (Cr (Tr (Qa (Dr (Qa (Dr (Rd h [] (fun _ hs => hs.drop) (resultsL1 rfl (Rc (cs := [(Sv ⟨#[118, 97, 108, 117, 101]⟩), (Iv (a0.Value.size : Int)), (Iv 6)]) 0 ag40 sz40 hs79_2 rfl rfl)) L79_1 ⟨rfl, rfl⟩)))))))
 have h := ite_f hb88 h
 refine Ck (Tc (Cs ?_))
 obtain ⟨x89, hj90, h⟩ := bnd h
 refine Jf (fun (x89 : Bool) ρ' M' H' => M79.le M' ∧ [(g32, .cells (l40 r27).toArray 40 (0, 0))] :: [(g22, .cells #[(Sv ⟨#[]⟩), (Iv 0), (Iv 0)] 40 (0, 0))] :: [(g21, .cells (l58 a0 v0_14 v0_15 v0_16 v0_17).toArray 58 (0, 0))] :: F = H' ∧ ρ' 1 = (pt g21 0) ∧ ρ' 2 = (pt g22 0) ∧ ρ' 106 = (Bv x89)) x89 ?_ ?_
 have h := hj90
 refine WC.draw [0, 1, 0, 4, 15, 31, 63, 127, 255, 127, 639, 2047, 4095, 8191, 16383, 32767, 65535, 32767, 163839, 524287, 1048575, 2097151, 4194303, 8388607, 16777215, 8388607, 41943039, 134217727, 268435455, 536870911] (.pure 0 (.pure 1 (.pure 2 (.alt 3 (.alt 4 (.pure 5 (.pure 6 (.pure 7 (.pure 8 (.pure 9 (.alt 10 (.alt 11 (.pure 12 (.pure 13 (.pure 14 (.pure 15 (.pure 16 (.pure 17 (.alt 18 (.alt 19 (.pure 20 (.pure 21 (.pure 22 (.pure 23 (.pure 24 (.pure 25 (.alt 26 (.alt 27 (.pure 28 (.pure 29 .done)) .none) .none))))))) .none) .none))))))) .none) .none)))))) .none) .none)))) mixed (by kernel_rfl) (qt (pt g21 14) rfl (Fa fo58_14 hs79_1 rfl) (qt v0_14 rfl (Lb 2 pl56 rfl rfl rfl) (qt (Iv a0.Kind) rfl (Mv hs79_3) ?_)))
 obtain ⟨r91, hr92, h⟩ := bnd h
 refine Ta rfl (Ca co105 (f_ref05_has_ok a0.Kind (105 : Int) _ r91 hr92) (args2 rfl rfl)) rfl ?_ ?_
 rintro _ M93 _ hle94 ⟨_, ⟨rfl, rfl⟩, rfl⟩
 have L94 := L79.trans hle94
 refine ⟨(Sk 1 rfl (Ss rfl (Lb 2 pl56 rfl rfl rfl) rfl (Ss rfl (Fa fo58_14 hs79_1 rfl) rfl trivial))), ?_⟩
 refine WT.a0 ?_
 obtain ⟨r96, hr97, h⟩ := bnd h
 have h0_14 := h0_14.mono L94
 refine Ta rfl (Ca co107 (f_ref05_row_ok a0.Ids r91 _ _ h0_14 r96 hr97) (args2 rfl rfl)) rfl ?_ ?_
 rintro _ M98 _ hle99 ⟨_, ⟨rfl, rfl⟩, rfl⟩
 have L99 := L94.trans hle99
 refine ⟨(Sl rfl), ?_⟩
 refine WT.a0 (qt (Bv (!r96)) rfl (PO.not rfl) (qt (Bv (!r96)) rfl (Mv rfl) ?_))
 rcases Bt (!r96) with hb101 | hb101
 have h := ite_t hb101 h
 refine Tf 83 rfl rfl rfl hb101 rfl (Tf 83 rfl rfl rfl hb101 rfl (Tf 83 rfl rfl rfl hb101 rfl (Tg 83 rfl rfl rfl hb101 rfl ⟨(Sk 1 rfl (St (Sf 83 rfl rfl rfl hb101 rfl) (St (Sf 83 rfl rfl rfl hb101 rfl) (Sl rfl)))), ?_⟩ ?_)))
 refine Tg 83 rfl rfl rfl hb101 rfl ⟨(Sl rfl), ?_⟩ ?_
 refine Tf 83 rfl rfl rfl hb101 rfl (qt (Bv true) rfl (Pt rfl hb101 rfl) (qt (Bv true) rfl (Mv rfl) (Tf 91 rfl rfl rfl rfl rfl (Tf 91 rfl rfl rfl rfl rfl (Tf 91 rfl rfl rfl rfl rfl (Tg 91 rfl rfl rfl rfl rfl ⟨(Sk 1 rfl (St (Sf 91 rfl rfl rfl rfl rfl) (St (Sf 91 rfl rfl rfl rfl rfl) (Sl rfl)))), ?_⟩ ?_))))))
 refine Tg 91 rfl rfl rfl rfl rfl ⟨(Sl rfl), ?_⟩ ?_
 refine Tf 91 rfl rfl rfl rfl rfl (qt (Bv true) rfl (Pt rfl rfl rfl) (qt (Bv true) rfl (Mv rfl) (Tf 99 rfl rfl rfl rfl rfl (Tf 99 rfl rfl rfl rfl rfl (Tf 99 rfl rfl rfl rfl rfl (Tg 99 rfl rfl rfl rfl rfl ⟨(Sk 1 rfl (St (Sf 99 rfl rfl rfl rfl rfl) (St (Sf 99 rfl rfl rfl rfl rfl) (Sl rfl)))), ?_⟩ ?_))))))
 refine Tg 99 rfl rfl rfl rfl rfl ⟨(Sl rfl), ?_⟩ ?_
 refine Tf 99 rfl rfl rfl rfl rfl (qt (Bv true) rfl (Pt rfl rfl rfl) (Ti ?_))
 obtain rfl := oi h
 exact Tj ⟨(hle94.trans hle99), rfl, hs79_1, hs79_2, rfl⟩
 exact Tz
 exact Tz
 exact Tz
 exact Tz
 exact Tz
 exact Tz
 have h := ite_f hb101 h
 refine Tn (pt g21 15) 83 rfl rfl rfl hb101 (Fa fo58_15 hs79_1 rfl) rfl (Tn v0_15 83 rfl rfl rfl hb101 (Lb 2 pl56 rfl rfl rfl) rfl (Tn (Iv a0.Kind) 83 rfl rfl rfl hb101 (Mv hs79_3) rfl ?_))
 obtain ⟨r102, hr103, h⟩ := bnd h
 refine WT.altOn 83 rfl rfl rfl hb101 (Ca co105 (f_ref05_has_ok a0.Kind (109 : Int) _ r102 hr103) (args2 rfl rfl)) rfl ?_ ?_
 rintro _ M104 _ hle105 ⟨_, ⟨rfl, rfl⟩, rfl⟩
 have L105 := L99.trans hle105
 refine ⟨(Sk 1 rfl (St (StabA.on 83 rfl rfl rfl hb101 (Lb 2 pl56 rfl rfl rfl) rfl) (St (StabA.on 83 rfl rfl rfl hb101 (Fa fo58_15 hs79_1 rfl) rfl) (Sl rfl)))), ?_⟩
 refine WT.a0 ?_
 obtain ⟨r107, hr108, h⟩ := bnd h
 have h0_15 := h0_15.mono L105
 refine WT.altOn 83 rfl rfl rfl hb101 (Ca co107 (f_ref05_row_ok a0.Isr r102 _ _ h0_15 r107 hr108) (args2 rfl rfl)) rfl ?_ ?_
 rintro _ M109 _ hle110 ⟨_, ⟨rfl, rfl⟩, rfl⟩
 have L110 := ((hle94.trans hle99).trans hle105).trans hle110
 refine ⟨(Sl rfl), ?_⟩
 refine WT.a0 (Tn (Bv (!r107)) 83 rfl rfl rfl hb101 (PO.not rfl) rfl (qt (Bv (!r107)) rfl (Pf rfl hb101 rfl) (qt (Bv (!r107)) rfl (Mv rfl) ?_)))
 rcases Bt (!r107) with hb112 | hb112
 have h := ite_t hb112 h
 refine Tf 91 rfl rfl rfl hb112 rfl (Tf 91 rfl rfl rfl hb112 rfl (Tf 91 rfl rfl rfl hb112 rfl (Tg 91 rfl rfl rfl hb112 rfl ⟨(Sk 1 rfl (St (Sf 91 rfl rfl rfl hb112 rfl) (St (Sf 91 rfl rfl rfl hb112 rfl) (Sl rfl)))), ?_⟩ ?_)))
 refine Tg 91 rfl rfl rfl hb112 rfl ⟨(Sl rfl), ?_⟩ ?_
 refine Tf 91 rfl rfl rfl hb112 rfl (qt (Bv true) rfl (Pt rfl hb112 rfl) (qt (Bv true) rfl (Mv rfl) (Tf 99 rfl rfl rfl rfl rfl (Tf 99 rfl rfl rfl rfl rfl (Tf 99 rfl rfl rfl rfl rfl (Tg 99 rfl rfl rfl rfl rfl ⟨(Sk 1 rfl (St (Sf 99 rfl rfl rfl rfl rfl) (St (Sf 99 rfl rfl rfl rfl rfl) (Sl rfl)))), ?_⟩ ?_))))))
 refine Tg 99 rfl rfl rfl rfl rfl ⟨(Sl rfl), ?_⟩ ?_
 refine Tf 99 rfl rfl rfl rfl rfl (qt (Bv true) rfl (Pt rfl rfl rfl) (Ti ?_))
 obtain rfl := oi h
 exact Tj ⟨L110, rfl, hs79_1, hs79_2, rfl⟩
 exact Tz
 exact Tz
 exact Tz
 exact Tz
 have h := ite_f hb112 h
 refine Tn (pt g21 16) 91 rfl rfl rfl hb112 (Fa fo58_16 hs79_1 rfl) rfl (Tn v0_16 91 rfl rfl rfl hb112 (Lb 2 pl56 rfl rfl rfl) rfl (Tn (Iv a0.Kind) 91 rfl rfl rfl hb112 (Mv hs79_3) rfl ?_))
 obtain ⟨r113, hr114, h⟩ := bnd h
 refine WT.altOn 91 rfl rfl rfl hb112 (Ca co105 (f_ref05_has_ok a0.Kind (120 : Int) _ r113 hr114) (args2 rfl rfl)) rfl ?_ ?_
 rintro _ M115 _ hle116 ⟨_, ⟨rfl, rfl⟩, rfl⟩
 refine ⟨(Sk 1 rfl (St (StabA.on 91 rfl rfl rfl hb112 (Lb 2 pl56 rfl rfl rfl) rfl) (St (StabA.on 91 rfl rfl rfl hb112 (Fa fo58_16 hs79_1 rfl) rfl) (Sl rfl)))), ?_⟩
 refine WT.a0 ?_
 obtain ⟨r118, hr119, h⟩ := bnd h
 have h0_16 := h0_16.mono ((L105.trans hle110).trans hle116)
 refine WT.altOn 91 rfl rfl rfl hb112 (Ca co107 (f_ref05_row_ok a0.Add r113 _ _ h0_16 r118 hr119) (args2 rfl rfl)) rfl ?_ ?_
 rintro _ M120 _ hle121 ⟨_, ⟨rfl, rfl⟩, rfl⟩
 refine ⟨(Sl rfl), ?_⟩
 refine WT.a0 (Tn (Bv (!r118)) 91 rfl rfl rfl hb112 (PO.not rfl) rfl (qt (Bv (!r118)) rfl (Pf rfl hb112 rfl) (qt (Bv (!r118)) rfl (Mv rfl) ?_)))
 rcases Bt (!r118) with hb123 | hb123
 have h := ite_t hb123 h
 refine Tf 99 rfl rfl rfl hb123 rfl (Tf 99 rfl rfl rfl hb123 rfl (Tf 99 rfl rfl rfl hb123 rfl (Tg 99 rfl rfl rfl hb123 rfl ⟨(Sk 1 rfl (St (Sf 99 rfl rfl rfl hb123 rfl) (St (Sf 99 rfl rfl rfl hb123 rfl) (Sl rfl)))), ?_⟩ ?_)))
 refine Tg 99 rfl rfl rfl hb123 rfl ⟨(Sl rfl), ?_⟩ ?_
 refine Tf 99 rfl rfl rfl hb123 rfl (qt (Bv true) rfl (Pt rfl hb123 rfl) (Ti ?_))
 obtain rfl := oi h
 exact Tj ⟨((L110.trans hle116).trans hle121), rfl, hs79_1, hs79_2, rfl⟩
 exact Tz
 exact Tz
 have h := ite_f hb123 h
 refine Tn (pt g21 17) 99 rfl rfl rfl hb123 (Fa fo58_17 hs79_1 rfl) rfl (Tn v0_17 99 rfl rfl rfl hb123 (Lb 2 pl56 rfl rfl rfl) rfl (Tn (Iv a0.Kind) 99 rfl rfl rfl hb123 (Mv hs79_3) rfl ?_))
 obtain ⟨r124, hr125, h⟩ := bnd h
 refine WT.altOn 99 rfl rfl rfl hb123 (Ca co105 (f_ref05_has_ok a0.Kind (120 : Int) _ r124 hr125) (args2 rfl rfl)) rfl ?_ ?_
 rintro _ M126 _ hle127 ⟨_, ⟨rfl, rfl⟩, rfl⟩
 refine ⟨(Sk 1 rfl (St (StabA.on 99 rfl rfl rfl hb123 (Lb 2 pl56 rfl rfl rfl) rfl) (St (StabA.on 99 rfl rfl rfl hb123 (Fa fo58_17 hs79_1 rfl) rfl) (Sl rfl)))), ?_⟩
 refine WT.a0 ?_
 obtain ⟨r129, hr130, h⟩ := bnd h
 have h0_17 := h0_17.mono ((((L105.trans hle110).trans hle116).trans hle121).trans hle127)
 refine WT.altOn 99 rfl rfl rfl hb123 (Ca co107 (f_ref05_row_ok a0.Drop r124 _ _ h0_17 r129 hr130) (args2 rfl rfl)) rfl ?_ ?_
 rintro _ M131 _ hle132 ⟨_, ⟨rfl, rfl⟩, rfl⟩
 refine ⟨(Sl rfl), ?_⟩
 refine WT.a0 (Tn (Bv (!r129)) 99 rfl rfl rfl hb123 (PO.not rfl) rfl (qt (Bv (!r129)) rfl (Pf rfl hb123 rfl) (Ti ?_)))
 obtain rfl := oi h
 exact Tj ⟨((((L110.trans hle116).trans hle121).trans hle127).trans hle132), rfl, hs79_1, hs79_2, rfl⟩
 exact Tz
 exact Tz
 exact Tz
 exact Tz
 exact Tz
 exact Tz
 exact Tz
 exact Tz
 rintro ρ90 M90 H90 ⟨hle90, rfl, hs90_1, hs90_2, hs90_106⟩
 refine Cd (b := x89) hs90_106 (fun hb134 => ?_) (fun hb134 => ?_)
 have h := ite_t hb134 h
 refine Sr (qu (pt g21 14) (Fa fo58_14 hs90_1 rfl) (qu v0_14 (Lb 2 pl56 rfl rfl rfl) ?_))
 have h0_14 := h0_14.mono (L79.trans hle90)
 refine qu (Iv (a0.Ids.length : Int)) (PO.lenS Tryz.underlying56 rfl h0_14.len) (qu (.agg #[(Sv ⟨#[114, 111, 119]⟩), (Iv (a0.Ids.length : Int)), (Iv 18)]) (Bl (cl := [(Sv ⟨#[114, 111, 119]⟩), (Iv (a0.Ids.length : Int)), (Iv 18)]) ze40 fp40 (Pc (Sv ⟨#[114, 111, 119]⟩) rfl rfl (Pc (Iv (a0.Ids.length : Int)) rfl rfl (Pc (Iv 18) rfl rfl Pz))) rfl) (WL.f1 (We (Sg (v := (.agg #[(Sv ⟨#[114, 111, 119]⟩), (Iv (a0.Ids.length : Int)), (Iv 18)])) (vl := [(Sv ⟨#[114, 111, 119]⟩), (Iv (a0.Ids.length : Int)), (Iv 18)]) (arr' := [(Sv ⟨#[114, 111, 119]⟩), (Iv (a0.Ids.length : Int)), (Iv 18)]) rfl sz40 hs90_2 rfl (onb rfl) rfl rfl rfl) rfl ?_)))
 rintro _ _ _ - ⟨rfl, rfl⟩
 exact Nt (Cr (Tr (Qa (Dr (Qa (Dr (Rd h [] (fun _ hs => hs.drop) (resultsL1 rfl (Rc (cs := [(Sv ⟨#[114, 111, 119]⟩), (Iv (a0.Ids.length : Int)), (Iv 18)]) 0 ag40 sz40 hs90_2 rfl rfl)) (L79_1.trans hle90) ⟨rfl, rfl⟩)))))))
 have h := ite_f hb134 h
 refine Ck (Tc (Sr (qu (.agg #[(Sv ⟨#[]⟩), (Iv 0), (Iv 0)]) (Bl (cl := [(Sv ⟨#[]⟩), (Iv 0), (Iv 0)]) ze40 fp40 Pz rfl) (WL.f1 (We (Sg (v := (.agg #[(Sv ⟨#[]⟩), (Iv 0), (Iv 0)])) (vl := [(Sv ⟨#[]⟩), (Iv 0), (Iv 0)]) (arr' := [(Sv ⟨#[]⟩), (Iv 0), (Iv 0)]) rfl sz40 hs90_2 rfl (onb rfl) rfl rfl rfl) rfl ?_)))))
 rintro _ _ _ - ⟨rfl, rfl⟩
 exact Nt (Cr (Qa (Dr (Qa (Dr (Rd h [] (fun _ hs => hs.drop) (resultsL1 rfl (Rc (cs := [(Sv ⟨#[]⟩), (Iv 0), (Iv 0)]) 0 ag40 sz40 hs90_2 rfl rfl)) (L79_1.trans hle90) ⟨rfl, rfl⟩))))))

noncomputable def f_ref06_Check_l0 (a0 : T_api_Batch) (s_ : Int) : Option (Int ⊕ (Unit ⊕ (ByteArray × Int × Int × Int))) :=
  match s_ with
  | x37 =>
    (if (decide (x37 < (a0.Records.length : Int))) = true then (grd (0 ≤ x37 ∧ x37 < a0.Records.length) ((f_ref05_Check (rd a0.Records x37)).bind fun r50 => (if (decide (r50.Code ≠ (0 : Int))) = true then (some (Sum.inr (Sum.inr (r50.Op, x37, r50.Code, x37)))) else (some (Sum.inl (IntKind.i64.wrap (x37 + (1 : Int)))))))) else (some (Sum.inr (Sum.inl ()))))
noncomputable def f_ref06_Check (a0 : T_api_Batch) : Option T_ref06_Wrong :=
  (((if (decide (a0.Term < (1 : Int))) = true then (some true) else (some (decide ((1073741824 : Int) < a0.Term)))) : Option Bool).bind fun x23 => (if x23 = true then (some (⟨(⟨(⟨#[116, 101, 114, 109]⟩ : ByteArray), a0.Term, (2 : Int)⟩ : T_ref05_Wrong), (-1 : Int)⟩ : T_ref06_Wrong)) else (((if (decide (a0.Base < (0 : Int))) = true then (some true) else (some (decide ((1073741824 : Int) < a0.Base)))) : Option Bool).bind fun x27 => (if x27 = true then (some (⟨(⟨(⟨#[98, 97, 115, 101]⟩ : ByteArray), a0.Base, (2 : Int)⟩ : T_ref05_Wrong), (-1 : Int)⟩ : T_ref06_Wrong)) else (((if (decide ((a0.Records.length : Int) < (1 : Int))) = true then (some true) else (some (decide ((64 : Int) < (a0.Records.length : Int))))) : Option Bool).bind fun x31 => (if x31 = true then (some (⟨(⟨(⟨#[114, 101, 99, 111, 114, 100, 115]⟩ : ByteArray), (a0.Records.length : Int), (6 : Int)⟩ : T_ref05_Wrong), (-1 : Int)⟩ : T_ref06_Wrong)) else ((((iter (f_ref06_Check_l0 a0) (0 : Int)).bind (Sum.elim (fun _ => (some (Sum.inl ()))) (fun (x38, x39, x40, x41) => (((some (⟨(⟨x38, x39, x40⟩ : T_ref05_Wrong), x41⟩ : T_ref06_Wrong))).bind fun r => some (Sum.inr r))))) : Option (Unit ⊕ T_ref06_Wrong)).bind (Sum.elim (fun _ => (some (⟨lit5_, (-1 : Int)⟩ : T_ref06_Wrong))) some))))))))
def f_ref06_Check_post (a0 : T_api_Batch) (v0_2 : Value) : T_ref06_Wrong → Value → IM → HL → Prop :=
  fun (r0 : T_ref06_Wrong) (v : Value) (M' : IM) (H' : HL) => (.agg #[(.string r0.W.Op), (.int .i64 r0.W.At), (.int .i64 r0.W.Code), (.int .i64 r0.Record)]) = v ∧ H' = []
theorem f_ref06_Check_ok (a0 : T_api_Batch) (M : IM) (v0_2 : Value) (h0_2 : RS kd_api_Record M v0_2 a0.Records) (res : T_ref06_Wrong) (h : f_ref06_Check a0 = some res) :
    Tri Tryz.prog 43 #[(a55_ a0 v0_2)] M [] (f_ref06_Check_post a0 v0_2 res) := by
 unfold f_ref06_Check at h
 refine Te Tryz.func43 rfl rfl ?_
 intro F ρ hρ
 refine Sr (We (EO.box (cs := (l55 a0 v0_2).toArray) (congrArg Value.cells (asE (a55_ a0 v0_2) (hρ 0)))) rfl ?_)
 rintro _ _ _ - ⟨rfl, g21, rfl, rfl⟩
 refine We (Al ze42 rfl) rfl ?_
 rintro _ _ _ - ⟨rfl, g22, rfl, rfl⟩
 refine Ns (qa (Iv 1073741824) (Nt (Cs ?_)))
 obtain ⟨x23, hj24, h⟩ := bnd h
 refine Jf (fun (x23 : Bool) ρ' M' H' => M.le M' ∧ [(g22, .cells z42_.toArray 42 (0, 0))] :: [(g21, .cells (l55 a0 v0_2).toArray 55 (0, 0))] :: F = H' ∧ ρ' 1 = (pt g21 0) ∧ ρ' 2 = (pt g22 0) ∧ ρ' 3 = (Iv 1073741824) ∧ ρ' 14 = (Bv x23)) x23 ?_ ?_
 have h := hj24
 refine Cg (qu (pt g21 0) (Fa fo55_0 rfl rfl) (qu (Iv a0.Term) (Lb 1 pl3 rfl rfl rfl) (qu (Bv (decide (a0.Term < 1))) (PO.lss rfl rfl) (qm (Bv (decide (a0.Term < 1))) ?_))))
 rcases Bt (decide (a0.Term < 1)) with hb25 | hb25
 have h := ite_t hb25 h
 iterate 4 refine Of 9 rfl rfl hb25 rfl ?_
 refine qu (Bv true) (Pt rfl hb25 rfl) (Wz ?_)
 obtain rfl := oi h
 exact Tj ⟨lr, rfl, rfl, rfl, rfl, rfl⟩
 have h := ite_f hb25 h
 refine qo 9 hb25 (pt g21 0) (Fa fo55_0 rfl rfl) (qo 9 hb25 (Iv a0.Term) (Lb 1 pl3 rfl rfl rfl) (On 9 rfl rfl hb25 (qm (Iv 1073741824) (qo 9 hb25 (Bv (decide ((1073741824 : Int) < a0.Term))) (PO.gtr rfl rfl) (qu (Bv (decide ((1073741824 : Int) < a0.Term))) (Pf rfl hb25 rfl) (Wz ?_))))))
 obtain rfl := oi h
 exact Tj ⟨lr, rfl, rfl, rfl, rfl, rfl⟩
 rintro ρ24 M24 H24 ⟨hle24, rfl, hs24_1, hs24_2, hs24_3, hs24_14⟩
 refine Cd (b := x23) hs24_14 (fun hb26 => ?_) (fun hb26 => ?_)
 have h := ite_t hb26 h
 refine Sr (qu (pt g21 0) (Fa fo55_0 hs24_1 rfl) (qu (Iv a0.Term) (Lb 1 pl3 rfl rfl rfl) (qu (.agg #[(Sv ⟨#[116, 101, 114, 109]⟩), (Iv a0.Term), (Iv 2)]) (Bl (cl := [(Sv ⟨#[116, 101, 114, 109]⟩), (Iv a0.Term), (Iv 2)]) ze40 fp40 (Pc (Sv ⟨#[116, 101, 114, 109]⟩) rfl rfl (Pc (Iv a0.Term) rfl rfl (Pc (Iv 2) rfl rfl Pz))) rfl) (qu (.agg #[(Sv ⟨#[116, 101, 114, 109]⟩), (Iv a0.Term), (Iv 2), (Iv (-1 : Int))]) (Bl (cl := [(Sv ⟨#[116, 101, 114, 109]⟩), (Iv a0.Term), (Iv 2), (Iv (-1 : Int))]) ze42 fp42 (Pc (.agg #[(Sv ⟨#[116, 101, 114, 109]⟩), (Iv a0.Term), (Iv 2)]) rfl rfl (Pc (Iv (-1 : Int)) rfl rfl Pz)) rfl) (We (Sg (v := (.agg #[(Sv ⟨#[116, 101, 114, 109]⟩), (Iv a0.Term), (Iv 2), (Iv (-1 : Int))])) (vl := [(Sv ⟨#[116, 101, 114, 109]⟩), (Iv a0.Term), (Iv 2), (Iv (-1 : Int))]) (arr' := [(Sv ⟨#[116, 101, 114, 109]⟩), (Iv a0.Term), (Iv 2), (Iv (-1 : Int))]) rfl sz42 hs24_2 rfl (onb rfl) rfl rfl rfl) rfl ?_)))))
 rintro _ _ _ - ⟨rfl, rfl⟩
 exact Nt (Cr (Tr (Qa (Dr (Rd h [] (fun _ hs => hs.drop) (resultsL1 rfl (Rc (cs := [(Sv ⟨#[116, 101, 114, 109]⟩), (Iv a0.Term), (Iv 2), (Iv (-1 : Int))]) 0 ag42 sz42 hs24_2 rfl rfl)) hle24 ⟨rfl, rfl⟩)))))
 have h := ite_f hb26 h
 refine Ck (Tc (Cs ?_))
 obtain ⟨x27, hj28, h⟩ := bnd h
 refine Jf (fun (x27 : Bool) ρ' M' H' => M24.le M' ∧ [(g22, .cells z42_.toArray 42 (0, 0))] :: [(g21, .cells (l55 a0 v0_2).toArray 55 (0, 0))] :: F = H' ∧ ρ' 1 = (pt g21 0) ∧ ρ' 2 = (pt g22 0) ∧ ρ' 27 = (Bv x27)) x27 ?_ ?_
 have h := hj28
 refine Cg (qu (pt g21 1) (Fa fo55_1 hs24_1 rfl) (qu (Iv a0.Base) (Lb 1 pl3 rfl rfl rfl) (qu (Bv (decide (a0.Base < 0))) (PO.lss rfl rfl) (qm (Bv (decide (a0.Base < 0))) ?_))))
 rcases Bt (decide (a0.Base < 0)) with hb29 | hb29
 have h := ite_t hb29 h
 iterate 4 refine Of 22 rfl rfl hb29 rfl ?_
 refine qu (Bv true) (Pt rfl hb29 rfl) (Wz ?_)
 obtain rfl := oi h
 exact Tj ⟨lr, rfl, hs24_1, hs24_2, rfl⟩
 have h := ite_f hb29 h
 refine qo 22 hb29 (pt g21 1) (Fa fo55_1 hs24_1 rfl) (qo 22 hb29 (Iv a0.Base) (Lb 1 pl3 rfl rfl rfl) (On 22 rfl rfl hb29 (qM (Iv 1073741824) hs24_3 (qo 22 hb29 (Bv (decide ((1073741824 : Int) < a0.Base))) (PO.gtr rfl rfl) (qu (Bv (decide ((1073741824 : Int) < a0.Base))) (Pf rfl hb29 rfl) (Wz ?_))))))
 obtain rfl := oi h
 exact Tj ⟨lr, rfl, hs24_1, hs24_2, rfl⟩
 rintro ρ28 M28 H28 ⟨hle28, rfl, hs28_1, hs28_2, hs28_27⟩
 have L28 := hle24.trans hle28
 refine Cd (b := x27) hs28_27 (fun hb30 => ?_) (fun hb30 => ?_)
 have h := ite_t hb30 h
 refine Sr (qu (pt g21 1) (Fa fo55_1 hs28_1 rfl) (qu (Iv a0.Base) (Lb 1 pl3 rfl rfl rfl) (qu (.agg #[(Sv ⟨#[98, 97, 115, 101]⟩), (Iv a0.Base), (Iv 2)]) (Bl (cl := [(Sv ⟨#[98, 97, 115, 101]⟩), (Iv a0.Base), (Iv 2)]) ze40 fp40 (Pc (Sv ⟨#[98, 97, 115, 101]⟩) rfl rfl (Pc (Iv a0.Base) rfl rfl (Pc (Iv 2) rfl rfl Pz))) rfl) (qu (.agg #[(Sv ⟨#[98, 97, 115, 101]⟩), (Iv a0.Base), (Iv 2), (Iv (-1 : Int))]) (Bl (cl := [(Sv ⟨#[98, 97, 115, 101]⟩), (Iv a0.Base), (Iv 2), (Iv (-1 : Int))]) ze42 fp42 (Pc (.agg #[(Sv ⟨#[98, 97, 115, 101]⟩), (Iv a0.Base), (Iv 2)]) rfl rfl (Pc (Iv (-1 : Int)) rfl rfl Pz)) rfl) (We (Sg (v := (.agg #[(Sv ⟨#[98, 97, 115, 101]⟩), (Iv a0.Base), (Iv 2), (Iv (-1 : Int))])) (vl := [(Sv ⟨#[98, 97, 115, 101]⟩), (Iv a0.Base), (Iv 2), (Iv (-1 : Int))]) (arr' := [(Sv ⟨#[98, 97, 115, 101]⟩), (Iv a0.Base), (Iv 2), (Iv (-1 : Int))]) rfl sz42 hs28_2 rfl (onb rfl) rfl rfl rfl) rfl ?_)))))
 rintro _ _ _ - ⟨rfl, rfl⟩
 exact Nt (Cr (Tr (Qa (Dr (Rd h [] (fun _ hs => hs.drop) (resultsL1 rfl (Rc (cs := [(Sv ⟨#[98, 97, 115, 101]⟩), (Iv a0.Base), (Iv 2), (Iv (-1 : Int))]) 0 ag42 sz42 hs28_2 rfl rfl)) L28 ⟨rfl, rfl⟩)))))
 have h := ite_f hb30 h
 refine Ck (Tc (Cs ?_))
 obtain ⟨x31, hj32, h⟩ := bnd h
 refine Jf (fun (x31 : Bool) ρ' M' H' => M28.le M' ∧ [(g22, .cells z42_.toArray 42 (0, 0))] :: [(g21, .cells (l55 a0 v0_2).toArray 55 (0, 0))] :: F = H' ∧ ρ' 1 = (pt g21 0) ∧ ρ' 2 = (pt g22 0) ∧ ρ' 41 = (Bv x31)) x31 ?_ ?_
 have h := hj32
 refine Cg (qu (pt g21 2) (Fa fo55_2 hs28_1 rfl) (qu v0_2 (Lb 1 pl53 rfl rfl rfl) ?_))
 have h0_2 := h0_2.mono L28
 refine qu (Iv (a0.Records.length : Int)) (PO.lenS Tryz.underlying53 rfl h0_2.len) (qu (Bv (decide ((a0.Records.length : Int) < (1 : Int)))) (PO.lss rfl rfl) (qm (Bv (decide ((a0.Records.length : Int) < (1 : Int)))) ?_))
 rcases Bt (decide ((a0.Records.length : Int) < (1 : Int))) with hb33 | hb33
 have h := ite_t hb33 h
 iterate 4 refine Of 36 rfl rfl hb33 rfl ?_
 refine qu (Bv true) (Pt rfl hb33 rfl) (Wz ?_)
 obtain rfl := oi h
 exact Tj ⟨lr, rfl, hs28_1, hs28_2, rfl⟩
 have h := ite_f hb33 h
 refine qo 36 hb33 (pt g21 2) (Fa fo55_2 hs28_1 rfl) (qo 36 hb33 v0_2 (Lb 1 pl53 rfl rfl rfl) (qo 36 hb33 (Iv (a0.Records.length : Int)) (PO.lenS Tryz.underlying53 rfl h0_2.len) (qo 36 hb33 (Bv (decide ((64 : Int) < (a0.Records.length : Int)))) (PO.gtr rfl rfl) (qu (Bv (decide ((64 : Int) < (a0.Records.length : Int)))) (Pf rfl hb33 rfl) (Wz ?_)))))
 obtain rfl := oi h
 exact Tj ⟨lr, rfl, hs28_1, hs28_2, rfl⟩
 rintro ρ32 M32 H32 ⟨hle32, rfl, hs32_1, hs32_2, hs32_41⟩
 have L32 := L28.trans hle32
 refine Cd (b := x31) hs32_41 (fun hb34 => ?_) (fun hb34 => ?_)
 have h := ite_t hb34 h
 refine Sr (qu (pt g21 2) (Fa fo55_2 hs32_1 rfl) (qu v0_2 (Lb 1 pl53 rfl rfl rfl) ?_))
 have h0_2 := h0_2.mono L32
 refine qu (Iv (a0.Records.length : Int)) (PO.lenS Tryz.underlying53 rfl h0_2.len) (qu (.agg #[(Sv ⟨#[114, 101, 99, 111, 114, 100, 115]⟩), (Iv (a0.Records.length : Int)), (Iv 6)]) (Bl (cl := [(Sv ⟨#[114, 101, 99, 111, 114, 100, 115]⟩), (Iv (a0.Records.length : Int)), (Iv 6)]) ze40 fp40 (Pc (Sv ⟨#[114, 101, 99, 111, 114, 100, 115]⟩) rfl rfl (Pc (Iv (a0.Records.length : Int)) rfl rfl (Pc (Iv 6) rfl rfl Pz))) rfl) (qu (.agg #[(Sv ⟨#[114, 101, 99, 111, 114, 100, 115]⟩), (Iv (a0.Records.length : Int)), (Iv 6), (Iv (-1 : Int))]) (Bl (cl := [(Sv ⟨#[114, 101, 99, 111, 114, 100, 115]⟩), (Iv (a0.Records.length : Int)), (Iv 6), (Iv (-1 : Int))]) ze42 fp42 (Pc (.agg #[(Sv ⟨#[114, 101, 99, 111, 114, 100, 115]⟩), (Iv (a0.Records.length : Int)), (Iv 6)]) rfl rfl (Pc (Iv (-1 : Int)) rfl rfl Pz)) rfl) (We (Sg (v := (.agg #[(Sv ⟨#[114, 101, 99, 111, 114, 100, 115]⟩), (Iv (a0.Records.length : Int)), (Iv 6), (Iv (-1 : Int))])) (vl := [(Sv ⟨#[114, 101, 99, 111, 114, 100, 115]⟩), (Iv (a0.Records.length : Int)), (Iv 6), (Iv (-1 : Int))]) (arr' := [(Sv ⟨#[114, 101, 99, 111, 114, 100, 115]⟩), (Iv (a0.Records.length : Int)), (Iv 6), (Iv (-1 : Int))]) rfl sz42 hs32_2 rfl (onb rfl) rfl rfl rfl) rfl ?_)))
 rintro _ _ _ - ⟨rfl, rfl⟩
 exact Nt (Cr (Tr (Qa (Dr (Rd h [] (fun _ hs => hs.drop) (resultsL1 rfl (Rc (cs := [(Sv ⟨#[114, 101, 99, 111, 114, 100, 115]⟩), (Iv (a0.Records.length : Int)), (Iv 6), (Iv (-1 : Int))]) 0 ag42 sz42 hs32_2 rfl rfl)) L32 ⟨rfl, rfl⟩)))))
 have h := ite_f hb34 h
 refine Ck (Tc ?_)
 obtain ⟨j35, hj35, h⟩ := bnd h
 refine WC.joinE (fun (_ : Unit) ρ' M' H' => M32.le M' ∧ [(g22, .cells z42_.toArray 42 (0, 0))] :: [(g21, .cells (l55 a0 v0_2).toArray 55 (0, 0))] :: F = H' ∧ ρ' 2 = (pt g22 0)) j35 ?_ ?_
 have h335 := h
 have h := hj35
 refine Sr (qa (Iv 0) (Nt (Bk ?_)))
 obtain ⟨e36, he36, hK36⟩ := bnd h
 clear h
 refine WC.loop he36 (fun (x37 : Int) ρ' M' H' => M32.le M' ∧ [(g22, .cells z42_.toArray 42 (0, 0))] :: [(g21, .cells (l55 a0 v0_2).toArray 55 (0, 0))] :: F = H' ∧ ρ' 1 = (pt g21 0) ∧ ρ' 2 = (pt g22 0) ∧ ρ' 4 = (Iv x37)) ?_ ?_
 exact ⟨lr, rfl, hs32_1, hs32_2, rfl⟩
 rintro x37 o36 ρ36 M36 H36 h ⟨hle36, rfl, hs36_1, hs36_2, hs36_4⟩
 unfold f_ref06_Check_l0 at h
 refine Cs (Sr (qM (Iv x37) hs36_4 (qu (pt g21 2) (Fa fo55_2 hs36_1 rfl) (qu v0_2 (Lb 1 pl53 rfl rfl rfl) ?_))))
 have h0_2 := h0_2.mono (L32.trans hle36)
 refine qu (Iv (a0.Records.length : Int)) (PO.lenS Tryz.underlying53 rfl h0_2.len) (qu (Bv (decide (x37 < (a0.Records.length : Int)))) (PO.lss rfl rfl) (Nt (Cd (b := decide (x37 < (a0.Records.length : Int))) rfl (fun hb42 => ?_) (fun hb42 => ?_))))
 have h := ite_t hb42 h
 refine Ck (Tc (Cs (Bk (Sr (qu (pt g21 2) (Fa fo55_2 hs36_1 rfl) (qu v0_2 (Lb 1 pl53 rfl rfl rfl) (qM (Iv x37) hs36_4 ?_)))))))
 obtain ⟨hg43, h⟩ := grd_i h
 obtain ⟨p44, cs45, hat46, hrc47, hhas48⟩ := h0_2.at hg43.1 hg43.2 (by decide)
 obtain ⟨vw49_14, vw49_15, vw49_16, vw49_17, rfl, hw49_14, hw49_15, hw49_16, hw49_17⟩ := kd_api_Record_open hrc47
 refine qu (.pointer (some p44)) (PO.indexAddr (n := a0.Records.length) Tryz.underlying53 sz58 rfl rfl hg43.1 hg43.2 hat46) (qu (a58_ (rd a0.Records x37) vw49_14 vw49_15 vw49_16 vw49_17) (PO.loadMA (cs := (l58 (rd a0.Records x37) vw49_14 vw49_15 vw49_16 vw49_17)) ag58 sz58 rfl hhas48) ?_)
 obtain ⟨r50, hr51, h⟩ := bnd h
 refine We (Ca co74 (f_ref05_Check_ok (rd a0.Records x37) _ _ _ _ _ hw49_14 hw49_15 hw49_16 hw49_17 r50 hr51) (args1 rfl)) rfl ?_
 rintro _ M52 _ hle53 ⟨_, ⟨rfl, rfl⟩, rfl⟩
 refine WL.a0 (We (Al ze40 rfl) rfl ?_)
 rintro _ _ _ - ⟨rfl, g55, rfl, rfl⟩
 refine We (Sg (v := (a40_ r50)) (vl := (l40 r50)) (arr' := (l40 r50)) rfl sz40 rfl rfl (onb rfl) rfl rfl rfl) rfl ?_
 rintro _ _ _ - ⟨rfl, rfl⟩
 refine Ns (qu (pt g55 2) (Fa fo40_2 rfl rfl) (qu (Iv r50.Code) (Lb 0 pl38 rfl rfl rfl) (qu (Bv (decide (r50.Code ≠ 0))) (PO.neq rfl rfl) (Nt (Cd (b := decide (r50.Code ≠ 0)) rfl (fun hb56 => ?_) (fun hb56 => ?_))))))
 have h := ite_t hb56 h
 refine Sr (qu (pt g55 0) (Fa fo40_0 rfl rfl) (qu (Sv r50.Op) (Lb 0 pl9 rfl rfl rfl) (qM (Iv x37) hs36_4 (qu (pt g55 2) (Fa fo40_2 rfl rfl) (qu (Iv r50.Code) (Lb 0 pl38 rfl rfl rfl) (qu (.agg #[(Sv r50.Op), (Iv x37), (Iv r50.Code)]) (Bl (cl := [(Sv r50.Op), (Iv x37), (Iv r50.Code)]) ze40 fp40 (Pc (Sv r50.Op) rfl rfl (Pc (Iv x37) rfl rfl (Pc (Iv r50.Code) rfl rfl Pz))) rfl) (qM (Iv x37) hs36_4 (qu (.agg #[(Sv r50.Op), (Iv x37), (Iv r50.Code), (Iv x37)]) (Bl (cl := [(Sv r50.Op), (Iv x37), (Iv r50.Code), (Iv x37)]) ze42 fp42 (Pc (.agg #[(Sv r50.Op), (Iv x37), (Iv r50.Code)]) rfl rfl (Pc (Iv x37) rfl rfl Pz)) rfl) (WL.f1 (We (Sg (v := (.agg #[(Sv r50.Op), (Iv x37), (Iv r50.Code), (Iv x37)])) (vl := [(Sv r50.Op), (Iv x37), (Iv r50.Code), (Iv x37)]) (arr' := [(Sv r50.Op), (Iv x37), (Iv r50.Code), (Iv x37)]) rfl sz42 hs36_2 rfl (onb rfl) rfl rfl rfl) rfl ?_))))))))))
 rintro _ _ _ - ⟨rfl, rfl⟩
 refine Nt (Cr (Br (Tr (WQ.leaveR (Sum.inr (r50.Op, x37, r50.Code, x37)) (oi h).symm (fun heq36 => ?_)))))
 subst heq36
 have h := (elimR hK36)
 refine Br (Tr ?_)
 have h := KK.early h h335
 exact Qa (Dr (Qa (Dr (Rd h [] (fun _ hs => hs.drop) (resultsL1 rfl (Rc (cs := [(Sv r50.Op), (Iv x37), (Iv r50.Code), (Iv x37)]) 0 ag42 sz42 hs36_2 rfl rfl)) ((L32.trans hle36).trans hle53) ⟨rfl, rfl⟩))))
 have h := ite_f hb56 h
 exact Ck (Bn (Tc (Cg (qM (Iv x37) hs36_4 (qu (Iv (IntKind.i64.wrap (x37 + 1))) (PO.add rfl rfl) (qa (Iv (IntKind.i64.wrap (x37 + 1))) (Wz (Dr (WQ.again (IntKind.i64.wrap (x37 + 1)) (oi h).symm ⟨(hle36.trans hle53), rfl, hs36_1, hs36_2, rfl⟩)))))))))
 have h := ite_f hb42 h
 refine WC.exit (WQ.thenE (WQ.leaveE (Sum.inl ()) (oi h).symm (fun heq36 => ?_)))
 subst heq36
 have h := elimL hK36
 exact WQ.blockH (WQ.thenFE h ⟨hle36, rfl, hs36_2⟩)
 rintro _ ρ35 M35 H35 rfl ⟨hle35, rfl, hs35_2⟩
 have h := (Sum.elim_inl _ _ _).symm.trans h
 refine Sr (qu (.agg #[(Sv ⟨#[]⟩), (Iv 0), (Iv 0), (Iv (-1 : Int))]) (Bl (cl := [(Sv ⟨#[]⟩), (Iv 0), (Iv 0), (Iv (-1 : Int))]) ze42 fp42 (Pc (Iv (-1 : Int)) rfl rfl Pz) rfl) (We (Sg (v := (.agg #[(Sv ⟨#[]⟩), (Iv 0), (Iv 0), (Iv (-1 : Int))])) (vl := [(Sv ⟨#[]⟩), (Iv 0), (Iv 0), (Iv (-1 : Int))]) (arr' := [(Sv ⟨#[]⟩), (Iv 0), (Iv 0), (Iv (-1 : Int))]) rfl sz42 hs35_2 rfl (onb rfl) rfl rfl rfl) rfl ?_))
 rintro _ _ _ - ⟨rfl, rfl⟩
 exact Nt (Cr (Qa (Dr (Rd h [] (fun _ hs => hs.drop) (resultsL1 rfl (Rc (cs := [(Sv ⟨#[]⟩), (Iv 0), (Iv 0), (Iv (-1 : Int))]) 0 ag42 sz42 hs35_2 rfl rfl)) (L32.trans hle35) ⟨rfl, rfl⟩))))


end Go.Proofs.YtkflneabcannnaaGreatDoor.G
