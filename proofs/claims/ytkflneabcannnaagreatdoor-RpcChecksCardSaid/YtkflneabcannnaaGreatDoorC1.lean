/- Go functions: what they come to, and that they do. Printed by a program of the session (gen). -/
import Derived.Test.YtkflneabcannnaaGreatDoorCF
import Derived.Test.YtkflneabcannnaaGreatDoorC0
import Derived.Test.YtkflneabcannnaaGreatDoorKConv
import Derived.Test.YtkflneabcannnaaGreatDoorKShar2
import Derived.Test.YtkflneabcannnaaGreatDoorKTight2
set_option linter.unusedVariables false
set_option linter.unusedSimpArgs false
set_option maxHeartbeats 8000000
set_option maxRecDepth 100000
namespace Go.Proofs.YtkflneabcannnaaGreatDoor.G
open Go Go.KK

noncomputable def f_slices_Index_int_int_l0 (a0 : (List Int)) (a1 : Int) (s_ : Int) : Option (Int ⊕ (Unit ⊕ Int)) :=
  match s_ with
  | x23 =>
    (if (decide (x23 < (a0.length : Int))) = true then (grd (0 ≤ x23 ∧ x23 < a0.length) (if (decide (a1 = (rd a0 x23))) = true then (some (Sum.inr (Sum.inr x23))) else (some (Sum.inl (IntKind.i64.wrap (x23 + (1 : Int))))))) else (some (Sum.inr (Sum.inl ()))))
noncomputable def f_slices_Index_int_int (a0 : (List Int)) (a1 : Int) : Option Int :=
  ((((iter (f_slices_Index_int_int_l0 a0 a1) (0 : Int)).bind (Sum.elim (fun _ => (some (Sum.inl ()))) (fun (x24 : Int) => (((some x24)).bind fun r => some (Sum.inr r))))) : Option (Unit ⊕ Int)).bind (Sum.elim (fun _ => (some (-1 : Int))) some))
def f_slices_Index_int_int_post (a0 : (List Int)) (a1 : Int) (v0 : Value) : Int → Value → IM → HL → Prop :=
  fun (r0 : Int) (v : Value) (M' : IM) (H' : HL) => (.int .i64 r0) = v ∧ H' = []
theorem f_slices_Index_int_int_ok (a0 : (List Int)) (a1 : Int) (M : IM) (v0 : Value) (h0 : RS (Kd.int .i64) M v0 a0) (res : Int) (h : f_slices_Index_int_int a0 a1 = some res) :
    Tri Tryz.prog 148 #[v0, (Iv a1)] M [] (f_slices_Index_int_int_post a0 a1 v0 res) := by
 unfold f_slices_Index_int_int at h
 refine Te Tryz.func148 rfl rfl ?_
 intro F ρ hρ
 refine Sr (qa (Iv 0) (Nt ?_))
 obtain ⟨j21, hj21, h⟩ := bnd h
 refine WC.joinE (fun (_ : Unit) ρ' M' H' => M.le M' ∧ F = H') j21 ?_ ?_
 have h321 := h
 have h := hj21
 refine Sr (qM v0 (hρ 0) (qu (Iv (a0.length : Int)) (PO.lenS Tryz.underlying56 rfl h0.len) (qm (Iv 0) (Nt (Bk ?_)))))
 obtain ⟨e22, he22, hK22⟩ := bnd h
 clear h
 refine WC.loop he22 (fun (x23 : Int) ρ' M' H' => M.le M' ∧ F = H' ∧ ρ' 0 = v0 ∧ ρ' 1 = (Iv a1) ∧ ρ' 7 = (Iv (a0.length : Int)) ∧ ρ' 8 = (Iv x23)) ?_ ?_
 exact ⟨lr, rfl, (hρ 0), (hρ 1), rfl, rfl⟩
 rintro x23 o22 ρ22 M22 H22 h ⟨hle22, rfl, hs22_0, hs22_1, hs22_7, hs22_8⟩
 unfold f_slices_Index_int_int_l0 at h
 refine Sr (qu (Bv (decide (x23 < (a0.length : Int)))) (PO.lss hs22_8 hs22_7) (Nt (Cs (Cd (b := decide (x23 < (a0.length : Int))) rfl (fun hb25 => ?_) (fun hb25 => ?_)))))
 have h := ite_t hb25 h
 refine Ck (Tc (Cs (Bk (Sr (qM (Iv x23) hs22_8 (qa (Iv x23) (Ns (qM (Iv a1) hs22_1 (qM v0 hs22_0 (qm (Iv x23) ?_))))))))))
 obtain ⟨hg26, h⟩ := grd_i h
 have h0 := h0.mono hle22
 obtain ⟨p27, cs28, hat29, hrc30, hhas31⟩ := h0.at hg26.1 hg26.2 (by decide)
 obtain rfl := hrc30
 refine qu (.pointer (some p27)) (PO.indexAddr (n := a0.length) Tryz.underlying56 sz3 rfl rfl hg26.1 hg26.2 hat29) (qu (Iv (rd a0 x23)) (PO.loadM pl3 rfl (IM.has0 hhas31)) (qu (Bv (decide (a1 = (rd a0 x23)))) (PO.eql rfl rfl) (Nt (Cd (b := decide (a1 = (rd a0 x23))) rfl (fun hb33 => ?_) (fun hb33 => ?_)))))
 have h := ite_t hb33 h
 refine Sr (qm (Iv x23) (qa (Iv x23) (Nt (Cr (Br (Tr (WQ.leaveR (Sum.inr x23) (oi h).symm (fun heq22 => ?_))))))))
 subst heq22
 have h := (elimR hK22)
 refine Br (Tr ?_)
 have h := KK.early h h321
 exact Rf h [] rfl (Rs rfl rfl) hle22 ⟨rfl, rfl⟩
 have h := ite_f hb33 h
 exact Ck (Bn (Tc (Cg (qu (Iv (IntKind.i64.wrap (x23 + 1))) (PO.add hs22_8 rfl) (qm (Iv (IntKind.i64.wrap (x23 + 1))) (Wz (WQ.again (IntKind.i64.wrap (x23 + 1)) (oi h).symm ⟨hle22, rfl, hs22_0, hs22_1, hs22_7, rfl⟩)))))))
 have h := ite_f hb25 h
 refine WC.exit (WQ.thenE (WQ.leaveE (Sum.inl ()) (oi h).symm (fun heq22 => ?_)))
 subst heq22
 have h := elimL hK22
 exact WQ.blockH (WQ.thenFE h ⟨hle22, rfl⟩)
 rintro _ ρ21 M21 H21 rfl ⟨hle21, rfl⟩
 have h := (Sum.elim_inl _ _ _).symm.trans h
 exact Sr (qa (Iv (-1 : Int)) (Nt (Cr (Rf h [] rfl (Rs rfl rfl) hle21 ⟨rfl, rfl⟩))))

noncomputable def f_slices_Contains_int_int (a0 : (List Int)) (a1 : Int) : Option Bool :=
  ((f_slices_Index_int_int a0 a1).bind fun r21 => (some (decide ((0 : Int) ≤ r21))))
def f_slices_Contains_int_int_post (a0 : (List Int)) (a1 : Int) (v0 : Value) : Bool → Value → IM → HL → Prop :=
  fun (r0 : Bool) (v : Value) (M' : IM) (H' : HL) => (.bool r0) = v ∧ H' = []
theorem f_slices_Contains_int_int_ok (a0 : (List Int)) (a1 : Int) (M : IM) (v0 : Value) (h0 : RS (Kd.int .i64) M v0 a0) (res : Bool) (h : f_slices_Contains_int_int a0 a1 = some res) :
    Tri Tryz.prog 146 #[v0, (Iv a1)] M [] (f_slices_Contains_int_int_post a0 a1 v0 res) := by
 unfold f_slices_Contains_int_int at h
 refine Te Tryz.func146 rfl rfl ?_
 intro F ρ hρ
 refine Sr (qa (Bv false) (Ns (qM v0 (hρ 0) (qM (Iv a1) (hρ 1) ?_))))
 obtain ⟨r21, hr22, h⟩ := bnd h
 refine We (Ca co148 (f_slices_Index_int_int_ok a0 a1 _ _ h0 r21 hr22) (args2 rfl rfl)) rfl ?_
 rintro _ M23 _ hle24 ⟨_, ⟨rfl, rfl⟩, rfl⟩
 exact WL.a0 (qu (Bv (decide ((0 : Int) ≤ r21))) (PO.geq rfl rfl) (qa (Bv (decide ((0 : Int) ≤ r21))) (Nt (Cr (Rf h [] rfl (Rs rfl rfl) hle24 ⟨rfl, rfl⟩)))))

noncomputable def f_record_Brokers_l0 (a0 : (List Int)) (s_ : Int) : Option (Int ⊕ (Unit ⊕ Unit)) :=
  match s_ with
  | x24 =>
    (if (decide (x24 < (a0.length : Int))) = true then (grd (0 ≤ x24 ∧ x24 < a0.length) (((if (decide ((rd a0 x24) < (1 : Int))) = true then (some true) else (if (decide ((64 : Int) < (rd a0 x24))) = true then (some true) else (grd (0 ≤ (0 : Int) ∧ (0 : Int) ≤ x24 ∧ x24 ≤ (a0.length : Int)) ((f_slices_Contains_int_int (sub a0 (0 : Int) x24) (rd a0 x24)).bind fun r39 => (some r39))))) : Option Bool).bind fun x33 => (if x33 = true then (some (Sum.inr (Sum.inr ()))) else (some (Sum.inl (IntKind.i64.wrap (x24 + (1 : Int)))))))) else (some (Sum.inr (Sum.inl ()))))
noncomputable def f_record_Brokers (a0 : (List Int)) : Option Bool :=
  (if (decide ((7 : Int) < (a0.length : Int))) = true then (some false) else ((((iter (f_record_Brokers_l0 a0) (0 : Int)).bind (Sum.elim (fun _ => (some (Sum.inl ()))) (fun _ => (((some false)).bind fun r => some (Sum.inr r))))) : Option (Unit ⊕ Bool)).bind (Sum.elim (fun _ => (some true)) some)))
def f_record_Brokers_post (a0 : (List Int)) (v0 : Value) : Bool → Value → IM → HL → Prop :=
  fun (r0 : Bool) (v : Value) (M' : IM) (H' : HL) => (.bool r0) = v ∧ H' = []
theorem f_record_Brokers_ok (a0 : (List Int)) (M : IM) (v0 : Value) (h0 : RS (Kd.int .i64) M v0 a0) (res : Bool) (h : f_record_Brokers a0 = some res) :
    Tri Tryz.prog 139 #[v0] M [] (f_record_Brokers_post a0 v0 res) := by
 unfold f_record_Brokers at h
 refine Te Tryz.func139 rfl rfl ?_
 intro F ρ hρ
 refine Sr (qa (Bv false) (Nt (Cs (Sr (qM v0 (hρ 0) (qu (Iv (a0.length : Int)) (PO.lenS Tryz.underlying56 rfl h0.len) (qu (Bv (decide ((7 : Int) < (a0.length : Int)))) (PO.gtr rfl rfl) (Nt (Cd (b := decide ((7 : Int) < (a0.length : Int))) rfl (fun hb21 => ?_) (fun hb21 => ?_))))))))))
 have h := ite_t hb21 h
 exact Sr (qa (Bv false) (Nt (Cr (Tr (Rf h [] rfl (Rs rfl rfl) lr ⟨rfl, rfl⟩)))))
 have h := ite_f hb21 h
 refine Ck (Tc ?_)
 obtain ⟨j22, hj22, h⟩ := bnd h
 refine WC.joinE (fun (_ : Unit) ρ' M' H' => M.le M' ∧ F = H') j22 ?_ ?_
 have h322 := h
 have h := hj22
 refine Sr (qM v0 (hρ 0) (qu (Iv (a0.length : Int)) (PO.lenS Tryz.underlying56 rfl h0.len) (qm (Iv 0) (Nt (Bk ?_)))))
 obtain ⟨e23, he23, hK23⟩ := bnd h
 clear h
 refine WC.loop he23 (fun (x24 : Int) ρ' M' H' => M.le M' ∧ F = H' ∧ ρ' 0 = v0 ∧ ρ' 8 = v0 ∧ ρ' 9 = (Iv (a0.length : Int)) ∧ ρ' 10 = (Iv x24)) ?_ ?_
 exact ⟨lr, rfl, (hρ 0), rfl, rfl, rfl⟩
 rintro x24 o23 ρ23 M23 H23 h ⟨hle23, rfl, hs23_0, hs23_8, hs23_9, hs23_10⟩
 unfold f_record_Brokers_l0 at h
 refine Sr (qu (Bv (decide (x24 < (a0.length : Int)))) (PO.lss hs23_10 hs23_9) (Nt (Cs (Cd (b := decide (x24 < (a0.length : Int))) rfl (fun hb25 => ?_) (fun hb25 => ?_)))))
 have h := ite_t hb25 h
 refine Ck (Tc (Cs (Bk (Sr (qM (Iv x24) hs23_10 ?_)))))
 obtain ⟨hg26, h⟩ := grd_i h
 have h0 := h0.mono hle23
 obtain ⟨p27, cs28, hat29, hrc30, hhas31⟩ := h0.at hg26.1 hg26.2 (by decide)
 obtain rfl := hrc30
 refine qu (.pointer (some p27)) (PO.indexAddr (n := a0.length) Tryz.underlying56 sz3 hs23_8 hs23_10 hg26.1 hg26.2 hat29) (qu (Iv (rd a0 x24)) (PO.loadM pl3 rfl (IM.has0 hhas31)) (qa (Iv x24) (qa (Iv (rd a0 x24)) (Nt ?_))))
 obtain ⟨x33, hj34, h⟩ := bnd h
 refine Jf (fun (x33 : Bool) ρ' M' H' => M23.le M' ∧ F = H' ∧ ρ' 0 = v0 ∧ ρ' 8 = v0 ∧ ρ' 9 = (Iv (a0.length : Int)) ∧ ρ' 10 = (Iv x24) ∧ ρ' 27 = (Bv x33)) x33 ?_ ?_
 have h := hj34
 refine Cg (qm (Iv (rd a0 x24)) (qu (Bv (decide ((rd a0 x24) < 1))) (PO.lss rfl rfl) (qm (Bv (decide ((rd a0 x24) < 1))) ?_)))
 rcases Bt (decide ((rd a0 x24) < 1)) with hb35 | hb35
 have h := ite_t hb35 h
 iterate 2 refine Of 17 rfl rfl hb35 rfl ?_
 refine qu (Bv true) (Pt rfl hb35 rfl) (qm (Bv true) ?_)
 iterate 5 refine Of 21 rfl rfl rfl rfl ?_
 refine qu (Bv true) (Pt rfl rfl rfl) (Wz ?_)
 obtain rfl := oi h
 exact Tj ⟨lr, rfl, hs23_0, hs23_8, hs23_9, hs23_10, rfl⟩
 have h := ite_f hb35 h
 refine On 17 rfl rfl hb35 (qm (Iv (rd a0 x24)) (qo 17 hb35 (Bv (decide ((64 : Int) < (rd a0 x24)))) (PO.gtr rfl rfl) (qu (Bv (decide ((64 : Int) < (rd a0 x24)))) (Pf rfl hb35 rfl) (qm (Bv (decide ((64 : Int) < (rd a0 x24)))) ?_))))
 rcases Bt (decide ((64 : Int) < (rd a0 x24))) with hb36 | hb36
 have h := ite_t hb36 h
 iterate 5 refine Of 21 rfl rfl hb36 rfl ?_
 refine qu (Bv true) (Pt rfl hb36 rfl) (Wz ?_)
 obtain rfl := oi h
 exact Tj ⟨lr, rfl, hs23_0, hs23_8, hs23_9, hs23_10, rfl⟩
 have h := ite_f hb36 h
 refine On 21 rfl rfl hb36 (qM v0 hs23_0 (On 21 rfl rfl hb36 (qm (Iv x24) (On 21 rfl rfl hb36 ?_))))
 obtain ⟨hg37, h⟩ := grd_i h
 have h38 := h0.sub hg37.1 hg37.2.1 hg37.2.2
 refine qu (slV v0 1 ((0 : Int)).toNat (x24).toNat) (PO.slice (n := a0.length) (l := ((0 : Int)).toNat) (h := (x24).toNat) Tryz.underlying56 sz3 rfl h0.len h0.cap (bound0 rfl) ⟨_, _, rfl, (Int.le_trans hg37.1 hg37.2.1), rfl⟩ (Int.toNat_le_toNat hg37.2.1) (toNat_le_len hg37.2.2)) (On 21 rfl rfl hb36 (qm (Iv (rd a0 x24)) (On 21 rfl rfl hb36 ?_)))
 obtain ⟨r39, hr40, h⟩ := bnd h
 refine We (Ca co146 (f_slices_Contains_int_int_ok (sub a0 (0 : Int) x24) (rd a0 x24) _ _ h38 r39 hr40) (args2 rfl rfl)) rfl ?_
 rintro _ M41 _ hle42 ⟨_, ⟨rfl, rfl⟩, rfl⟩
 refine WL.a0 (qu (Bv r39) (Pf rfl hb36 rfl) (Wz ?_))
 obtain rfl := oi h
 exact Tj ⟨hle42, rfl, hs23_0, hs23_8, hs23_9, hs23_10, rfl⟩
 rintro ρ34 M34 H34 ⟨hle34, rfl, hs34_0, hs34_8, hs34_9, hs34_10, hs34_27⟩
 refine Cd (b := x33) hs34_27 (fun hb44 => ?_) (fun hb44 => ?_)
 have h := ite_t hb44 h
 refine Sr (qa (Bv false) (Nt (Cr (Br (Tr (WQ.leaveR (Sum.inr ()) (oi h).symm (fun heq23 => ?_)))))))
 subst heq23
 have h := (elimR hK23)
 refine Br (Tr ?_)
 have h := KK.early h h322
 exact Rf h [] rfl (Rs rfl rfl) (hle23.trans hle34) ⟨rfl, rfl⟩
 have h := ite_f hb44 h
 exact Ck (Bn (Tc (Cg (qu (Iv (IntKind.i64.wrap (x24 + 1))) (PO.add hs34_10 rfl) (qm (Iv (IntKind.i64.wrap (x24 + 1))) (Wz (WQ.again (IntKind.i64.wrap (x24 + 1)) (oi h).symm ⟨(hle23.trans hle34), rfl, hs34_0, hs34_8, hs34_9, rfl⟩)))))))
 have h := ite_f hb25 h
 refine WC.exit (WQ.thenE (WQ.leaveE (Sum.inl ()) (oi h).symm (fun heq23 => ?_)))
 subst heq23
 have h := elimL hK23
 exact WQ.blockH (WQ.thenFE h ⟨hle23, rfl⟩)
 rintro _ ρ22 M22 H22 rfl ⟨hle22, rfl⟩
 have h := (Sum.elim_inl _ _ _).symm.trans h
 exact Sr (qa (Bv true) (Nt (Cr (Rf h [] rfl (Rs rfl rfl) hle22 ⟨rfl, rfl⟩))))

noncomputable def f_record_row (a0 : (List Int)) (a1 : Bool) : Option Bool :=
  (if (!a1) = true then (some (decide ((a0.length : Int) = (0 : Int)))) else ((f_record_Brokers a0).bind fun r22 => (some r22)))
def f_record_row_post (a0 : (List Int)) (a1 : Bool) (v0 : Value) : Bool → Value → IM → HL → Prop :=
  fun (r0 : Bool) (v : Value) (M' : IM) (H' : HL) => (.bool r0) = v ∧ H' = []
theorem f_record_row_ok (a0 : (List Int)) (a1 : Bool) (M : IM) (v0 : Value) (h0 : RS (Kd.int .i64) M v0 a0) (res : Bool) (h : f_record_row a0 a1 = some res) :
    Tri Tryz.prog 117 #[v0, (Bv a1)] M [] (f_record_row_post a0 a1 v0 res) := by
 unfold f_record_row at h
 refine Te Tryz.func117 rfl rfl ?_
 intro F ρ hρ
 refine Sr (qa (Bv false) (Nt (Cs (Sr (qM (Bv a1) (hρ 1) (qu (Bv (!a1)) (PO.not rfl) (Nt (Cd (b := !a1) rfl (fun hb21 => ?_) (fun hb21 => ?_)))))))))
 have h := ite_t hb21 h
 exact Sr (qM v0 (hρ 0) (qu (Iv (a0.length : Int)) (PO.lenS Tryz.underlying56 rfl h0.len) (qu (Bv (decide ((a0.length : Int) = (0 : Int)))) (PO.eql rfl rfl) (qa (Bv (decide ((a0.length : Int) = (0 : Int)))) (Nt (Cr (Tr (Rf h [] rfl (Rs rfl rfl) lr ⟨rfl, rfl⟩))))))))
 have h := ite_f hb21 h
 refine Ck (Tc (Sr (qM v0 (hρ 0) ?_)))
 obtain ⟨r22, hr23, h⟩ := bnd h
 refine We (Ca co139 (f_record_Brokers_ok a0 _ _ h0 r22 hr23) (args1 rfl)) rfl ?_
 rintro _ M24 _ hle25 ⟨_, ⟨rfl, rfl⟩, rfl⟩
 exact WL.a0 (qa (Bv r22) (Nt (Cr (Rf h [] rfl (Rs rfl rfl) hle25 ⟨rfl, rfl⟩))))

noncomputable def f_record_Check (a0 : T_api_Record) : Option GErr :=
  (((if (decide (a0.Kind < (1 : Int))) = true then (some true) else (some (decide ((12 : Int) < a0.Kind)))) : Option Bool).bind fun x22 => (if x22 = true then ((f_fault_New (⟨#[107, 105, 110, 100]⟩ : ByteArray) a0.Kind (5 : Int)).bind fun r26 => (some r26)) else (((if (decide (a0.Kind ≠ (10 : Int))) = true then (some (1 : Int)) else (some (0 : Int))) : Option Int).bind fun x31 => ((f_record_Check_1 (1 : Int) a0).bind fun r34 => ((f_record_number a0.Broker r34 (1 : Int) (64 : Int)).bind fun r39 => (if (!r39) = true then ((f_fault_New (⟨#[98, 114, 111, 107, 101, 114]⟩ : ByteArray) a0.Broker (2 : Int)).bind fun r45 => (some r45)) else ((f_record_Check_1 (2 : Int) a0).bind fun r50 => ((f_record_number a0.Epoch r50 (0 : Int) (1073741824 : Int)).bind fun r55 => (if (!r55) = true then ((f_fault_New (⟨#[101, 112, 111, 99, 104]⟩ : ByteArray) a0.Epoch (2 : Int)).bind fun r61 => (some r61)) else ((f_record_Check_1 (4 : Int) a0).bind fun r66 => ((f_record_number a0.Topic r66 x31 (1073741824 : Int)).bind fun r71 => (if (!r71) = true then ((f_fault_New (⟨#[116, 111, 112, 105, 99]⟩ : ByteArray) a0.Topic (2 : Int)).bind fun r77 => (some r77)) else ((f_record_Check_1 (8 : Int) a0).bind fun r82 => ((f_record_number a0.Part r82 (0 : Int) (255 : Int)).bind fun r87 => (if (!r87) = true then ((f_fault_New (⟨#[112, 97, 114, 116]⟩ : ByteArray) a0.Part (2 : Int)).bind fun r93 => (some r93)) else ((f_record_Check_1 (16 : Int) a0).bind fun r98 => ((f_record_number a0.Leader r98 (0 : Int) (64 : Int)).bind fun r103 => (if (!r103) = true then ((f_fault_New (⟨#[108, 101, 97, 100, 101, 114]⟩ : ByteArray) a0.Leader (2 : Int)).bind fun r109 => (some r109)) else ((((f_record_Check_1 (32 : Int) a0).bind fun r116 => ((f_record_number a0.Client r116 (1 : Int) (1073741824 : Int)).bind fun r121 => (if (!r121) = true then (some true) else ((f_record_Check_1 (32 : Int) a0).bind fun r127 => ((f_record_number a0.Serial r127 (1 : Int) (1073741824 : Int)).bind fun r132 => (if (!r132) = true then (some true) else ((f_record_Check_1 (32 : Int) a0).bind fun r138 => ((f_record_number a0.Code r138 (0 : Int) (21 : Int)).bind fun r143 => (some (!r143)))))))))) : Option Bool).bind fun x114 => (if x114 = true then ((f_fault_New (⟨#[97, 115, 107, 101, 114]⟩ : ByteArray) a0.Client (2 : Int)).bind fun r149 => (some r149)) else ((((f_record_Check_1 (64 : Int) a0).bind fun r156 => (if (!r156) = true then (some a0.Flag) else (some false))) : Option Bool).bind fun x154 => (if x154 = true then ((f_fault_New (⟨#[102, 108, 97, 103]⟩ : ByteArray) (1 : Int) (1 : Int)).bind fun r163 => (some r163)) else ((((f_record_Check_1 (128 : Int) a0).bind fun r170 => ((f_record_text_116 a0.Name r170).bind fun r175 => (if (!r175) = true then (some true) else ((f_record_Check_1 (256 : Int) a0).bind fun r181 => ((f_record_text_116 a0.Key r181).bind fun r186 => (if (!r186) = true then (some true) else ((f_record_Check_1 (1024 : Int) a0).bind fun r192 => ((f_record_text_116 a0.Rack r192).bind fun r197 => (some (!r197)))))))))) : Option Bool).bind fun x168 => (if x168 = true then ((f_fault_New (⟨#[110, 97, 109, 101]⟩ : ByteArray) (a0.Name.size : Int) (1 : Int)).bind fun r203 => (some r203)) else ((((f_record_Check_1 (512 : Int) a0).bind fun r210 => ((f_record_text_113 a0.Value r210).bind fun r215 => (if (!r215) = true then (some true) else (if a0.Flag = true then (some (!decide (a0.Value = (⟨#[]⟩ : ByteArray)))) else (some false))))) : Option Bool).bind fun x208 => (if x208 = true then ((f_fault_New (⟨#[118, 97, 108, 117, 101]⟩ : ByteArray) (a0.Value.size : Int) (6 : Int)).bind fun r223 => (some r223)) else ((((f_record_Check_1 (2048 : Int) a0).bind fun r230 => ((f_record_row a0.Ids r230).bind fun r235 => (if (!r235) = true then (some true) else ((f_record_Check_1 (4096 : Int) a0).bind fun r241 => ((f_record_row a0.Isr r241).bind fun r246 => (if (!r246) = true then (some true) else ((f_record_Check_1 (8192 : Int) a0).bind fun r252 => ((f_record_row a0.Add r252).bind fun r257 => (if (!r257) = true then (some true) else ((f_record_Check_1 (8192 : Int) a0).bind fun r263 => ((f_record_row a0.Drop r263).bind fun r268 => (some (!r268))))))))))))) : Option Bool).bind fun x228 => (if x228 = true then ((f_fault_New (⟨#[114, 111, 119]⟩ : ByteArray) (a0.Ids.length : Int) (18 : Int)).bind fun r274 => (some r274)) else (some GErr.nil)))))))))))))))))))))))))))))
def f_record_Check_post (a0 : T_api_Record) (v0_14 v0_15 v0_16 v0_17 : Value) : GErr → Value → IM → HL → Prop :=
  fun (r0 : GErr) (v : Value) (M' : IM) (H' : HL) => (GV r0) = v ∧ H' = []
theorem f_record_Check_ok (a0 : T_api_Record) (M : IM) (v0_14 v0_15 v0_16 v0_17 : Value) (h0_14 : RS (Kd.int .i64) M v0_14 a0.Ids) (h0_15 : RS (Kd.int .i64) M v0_15 a0.Isr) (h0_16 : RS (Kd.int .i64) M v0_16 a0.Add) (h0_17 : RS (Kd.int .i64) M v0_17 a0.Drop) (res : GErr) (h : f_record_Check a0 = some res) :
    Tri Tryz.prog 77 #[(a58_ a0 v0_14 v0_15 v0_16 v0_17)] M [] (f_record_Check_post a0 v0_14 v0_15 v0_16 v0_17 res) := by
 unfold f_record_Check at h
 refine Te Tryz.func77 rfl rfl ?_
 intro F ρ hρ
 refine Sr (We (EO.box (cs := (l58 a0 v0_14 v0_15 v0_16 v0_17).toArray) (congrArg Value.cells (asE (a58_ a0 v0_14 v0_15 v0_16 v0_17) (hρ 0)))) rfl ?_)
 rintro _ _ _ - ⟨rfl, g21, rfl, rfl⟩
 refine qa (GV GErr.nil) (Nt (Cs ?_))
 obtain ⟨x22, hj23, h⟩ := bnd h
 refine Jf (fun (x22 : Bool) ρ' M' H' => M.le M' ∧ [(g21, .cells (l58 a0 v0_14 v0_15 v0_16 v0_17).toArray 58 (0, 0))] :: F = H' ∧ ρ' 1 = (pt g21 0) ∧ ρ' 13 = (Bv x22)) x22 ?_ ?_
 have h := hj23
 refine Cg (qu (pt g21 0) (Fa fo58_0 rfl rfl) (qu (Iv a0.Kind) (Lb 0 pl3 rfl rfl rfl) (qu (Bv (decide (a0.Kind < 1))) (PO.lss rfl rfl) (qm (Bv (decide (a0.Kind < 1))) ?_))))
 rcases Bt (decide (a0.Kind < 1)) with hb24 | hb24
 have h := ite_t hb24 h
 iterate 3 refine Of 9 rfl rfl hb24 rfl ?_
 refine qu (Bv true) (Pt rfl hb24 rfl) (Wz ?_)
 obtain rfl := oi h
 exact Tj ⟨lr, rfl, rfl, rfl⟩
 have h := ite_f hb24 h
 refine qo 9 hb24 (pt g21 0) (Fa fo58_0 rfl rfl) (qo 9 hb24 (Iv a0.Kind) (Lb 0 pl3 rfl rfl rfl) (qo 9 hb24 (Bv (decide ((12 : Int) < a0.Kind))) (PO.gtr rfl rfl) (qu (Bv (decide ((12 : Int) < a0.Kind))) (Pf rfl hb24 rfl) (Wz ?_))))
 obtain rfl := oi h
 exact Tj ⟨lr, rfl, rfl, rfl⟩
 rintro ρ23 M23 H23 ⟨hle23, rfl, hs23_1, hs23_13⟩
 refine Cd (b := x22) hs23_13 (fun hb25 => ?_) (fun hb25 => ?_)
 have h := ite_t hb25 h
 refine Sr (qu (pt g21 0) (Fa fo58_0 hs23_1 rfl) (qu (Iv a0.Kind) (Lb 0 pl3 rfl rfl rfl) ?_))
 obtain ⟨r26, hr27, h⟩ := bnd h
 refine We (Ca co30 (f_fault_New_ok ⟨#[107, 105, 110, 100]⟩ a0.Kind (5 : Int) _ r26 hr27) (args3 rfl rfl rfl)) rfl ?_
 rintro _ M28 _ hle29 ⟨_, ⟨rfl, rfl⟩, rfl⟩
 exact WL.a0 (qa (GV r26) (Nt (Cr (Tr (Dr (Rf h [] rfl (Rs rfl rfl) (hle23.trans hle29) ⟨rfl, rfl⟩))))))
 have h := ite_f hb25 h
 refine Ck (Tc (Sr (qu (.func (.func 112) #[] #[(pt g21 0)]) (PO.makeFunc2 (args0) (args1 (asE (Value.pointer (some ⟨g21, 0, none⟩)) hs23_1))) (qa (.func (.func 112) #[] #[(pt g21 0)]) (Ns (qa (Iv 0) (Nt ?_)))))))
 obtain ⟨x31, hj32, h⟩ := bnd h
 refine Jf (fun (x31 : Int) ρ' M' H' => M23.le M' ∧ [(g21, .cells (l58 a0 v0_14 v0_15 v0_16 v0_17).toArray 58 (0, 0))] :: F = H' ∧ ρ' 1 = (pt g21 0) ∧ ρ' 3 = (.func (.func 112) #[] #[(pt g21 0)]) ∧ ρ' 4 = (Iv x31)) x31 ?_ ?_
 have h := hj32
 refine Sr (qu (pt g21 0) (Fa fo58_0 hs23_1 rfl) (qu (Iv a0.Kind) (Lb 0 pl3 rfl rfl rfl) (qu (Bv (decide (a0.Kind ≠ 10))) (PO.neq rfl rfl) (Nt (Cd (b := decide (a0.Kind ≠ 10)) rfl (fun hb33 => ?_) (fun hb33 => ?_))))))
 have h := ite_t hb33 h
 refine Cg (qa (Iv 1) (Wz ?_))
 obtain rfl := oi h
 exact Tj ⟨lr, rfl, hs23_1, rfl, rfl⟩
 have h := ite_f hb33 h
 refine Ck ?_
 obtain rfl := oi h
 exact Tj ⟨lr, rfl, hs23_1, rfl, rfl⟩
 rintro ρ32 M32 H32 ⟨hle32, rfl, hs32_1, hs32_3, hs32_4⟩
 have L32 := hle23.trans hle32
 refine Sr (qa (.func (.func 113) #[] #[]) (Nt (Cs (Bk (Cs (WC.draw [0, 1, 0, 4, 15, 31, 63] (.pure 0 (.pure 1 (.pure 2 (.alt 3 (.alt 4 (.pure 5 (.pure 6 .done)) .none) .none)))) mixed (by kernel_rfl) (qt (pt g21 1) rfl (Fa fo58_1 hs32_1 rfl) (qt (Iv a0.Broker) rfl (Lb 0 pl3 rfl rfl rfl) (qt (.func (.func 112) #[] #[(pt g21 0)]) rfl (Mv hs32_3) ?_)))))))))
 obtain ⟨r34, hr35, h⟩ := bnd h
 have h0_14 := h0_14.mono L32
 have h0_15 := h0_15.mono L32
 have h0_16 := h0_16.mono L32
 have h0_17 := h0_17.mono L32
 refine Ta rfl (EO.callV1 (first := #[]) (cap := #[(pt g21 0)]) co112 rfl (f_record_Check_1_ok (1 : Int) a0 _ _ _ _ _ _ h0_14 h0_15 h0_16 h0_17 r34 hr35) (argsV1 rfl rfl)) rfl ?_ ?_
 rintro _ M36 _ hle37 ⟨_, ⟨rfl, rfl⟩, rfl⟩
 have L37 := L32.trans hle37
 refine ⟨(Sk 1 rfl (Ss rfl (Lb 0 pl3 rfl rfl rfl) rfl (Ss rfl (Fa fo58_1 hs32_1 rfl) rfl trivial))), ?_⟩
 refine WT.a1 ?_
 obtain ⟨r39, hr40, h⟩ := bnd h
 refine Ta rfl (Ca co114 (f_record_number_ok a0.Broker r34 (1 : Int) (64 : Int) _ r39 hr40) (args4 rfl rfl rfl rfl)) rfl ?_ ?_
 rintro _ M41 _ hle42 ⟨_, ⟨rfl, rfl⟩, rfl⟩
 have L42 := L37.trans hle42
 refine ⟨(Sl rfl), ?_⟩
 refine WT.a0 (qt (Bv (!r39)) rfl (PO.not rfl) (qt (Bv (!r39)) rfl (Ag rfl) (Ti (Tc (Cd (b := !r39) rfl (fun hb44 => ?_) (fun hb44 => ?_))))))
 have h := ite_t hb44 h
 refine Sr (qu (pt g21 1) (Fa fo58_1 hs32_1 rfl) (qu (Iv a0.Broker) (Lb 0 pl3 rfl rfl rfl) ?_))
 obtain ⟨r45, hr46, h⟩ := bnd h
 refine We (Ca co30 (f_fault_New_ok ⟨#[98, 114, 111, 107, 101, 114]⟩ a0.Broker (2 : Int) _ r45 hr46) (args3 rfl rfl rfl)) rfl ?_
 rintro _ M47 _ hle48 ⟨_, ⟨rfl, rfl⟩, rfl⟩
 exact WL.a0 (qa (GV r45) (Nt (Cr (Br (Tr (Dr (Rf h [] rfl (Rs rfl rfl) (L42.trans hle48) ⟨rfl, rfl⟩)))))))
 have h := ite_f hb44 h
 refine Cs (WC.draw [0, 1, 0, 4, 15, 31, 63] (.pure 0 (.pure 1 (.pure 2 (.alt 3 (.alt 4 (.pure 5 (.pure 6 .done)) .none) .none)))) mixed (by kernel_rfl) (qt (pt g21 2) rfl (Fa fo58_2 hs32_1 rfl) (qt (Iv a0.Epoch) rfl (Lb 0 pl3 rfl rfl rfl) (qt (.func (.func 112) #[] #[(pt g21 0)]) rfl (Mv hs32_3) ?_))))
 obtain ⟨r50, hr51, h⟩ := bnd h
 have h0_14 := h0_14.mono (hle37.trans hle42)
 have h0_15 := h0_15.mono (hle37.trans hle42)
 have h0_16 := h0_16.mono (hle37.trans hle42)
 have h0_17 := h0_17.mono (hle37.trans hle42)
 refine Ta rfl (EO.callV1 (first := #[]) (cap := #[(pt g21 0)]) co112 rfl (f_record_Check_1_ok (2 : Int) a0 _ _ _ _ _ _ h0_14 h0_15 h0_16 h0_17 r50 hr51) (argsV1 rfl rfl)) rfl ?_ ?_
 rintro _ M52 _ hle53 ⟨_, ⟨rfl, rfl⟩, rfl⟩
 have L53 := L42.trans hle53
 refine ⟨(Sk 1 rfl (Ss rfl (Lb 0 pl3 rfl rfl rfl) rfl (Ss rfl (Fa fo58_2 hs32_1 rfl) rfl trivial))), ?_⟩
 refine WT.a1 ?_
 obtain ⟨r55, hr56, h⟩ := bnd h
 refine Ta rfl (Ca co114 (f_record_number_ok a0.Epoch r50 (0 : Int) (1073741824 : Int) _ r55 hr56) (args4 rfl rfl rfl rfl)) rfl ?_ ?_
 rintro _ M57 _ hle58 ⟨_, ⟨rfl, rfl⟩, rfl⟩
 have L58 := L53.trans hle58
 refine ⟨(Sl rfl), ?_⟩
 refine WT.a0 (qt (Bv (!r55)) rfl (PO.not rfl) (qt (Bv (!r55)) rfl (Ag rfl) (Ti (Tc (Cd (b := !r55) rfl (fun hb60 => ?_) (fun hb60 => ?_))))))
 have h := ite_t hb60 h
 refine Sr (qu (pt g21 2) (Fa fo58_2 hs32_1 rfl) (qu (Iv a0.Epoch) (Lb 0 pl3 rfl rfl rfl) ?_))
 obtain ⟨r61, hr62, h⟩ := bnd h
 refine We (Ca co30 (f_fault_New_ok ⟨#[101, 112, 111, 99, 104]⟩ a0.Epoch (2 : Int) _ r61 hr62) (args3 rfl rfl rfl)) rfl ?_
 rintro _ M63 _ hle64 ⟨_, ⟨rfl, rfl⟩, rfl⟩
 exact WL.a0 (qa (GV r61) (Nt (Cr (Br (Tr (Dr (Rf h [] rfl (Rs rfl rfl) (L58.trans hle64) ⟨rfl, rfl⟩)))))))
 have h := ite_f hb60 h
 refine Cs (WC.draw [0, 1, 0, 4, 0, 31, 63, 127] (.pure 0 (.pure 1 (.pure 2 (.pure 4 (.alt 3 (.alt 5 (.pure 6 (.pure 7 .done)) .none) .none))))) mixed (by kernel_rfl) (qt (pt g21 3) rfl (Fa fo58_3 hs32_1 rfl) (qt (Iv a0.Topic) rfl (Lb 0 pl3 rfl rfl rfl) (qt (.func (.func 112) #[] #[(pt g21 0)]) rfl (Mv hs32_3) (qt (Iv x31) rfl (Mv hs32_4) ?_)))))
 obtain ⟨r66, hr67, h⟩ := bnd h
 have h0_14 := h0_14.mono (hle53.trans hle58)
 have h0_15 := h0_15.mono (hle53.trans hle58)
 have h0_16 := h0_16.mono (hle53.trans hle58)
 have h0_17 := h0_17.mono (hle53.trans hle58)
 refine Ta rfl (EO.callV1 (first := #[]) (cap := #[(pt g21 0)]) co112 rfl (f_record_Check_1_ok (4 : Int) a0 _ _ _ _ _ _ h0_14 h0_15 h0_16 h0_17 r66 hr67) (argsV1 rfl rfl)) rfl ?_ ?_
 rintro _ M68 _ hle69 ⟨_, ⟨rfl, rfl⟩, rfl⟩
 have L69 := L58.trans hle69
 refine ⟨(Ss rfl (Mv hs32_4) rfl (Sk 1 rfl (Ss rfl (Lb 0 pl3 rfl rfl rfl) rfl (Ss rfl (Fa fo58_3 hs32_1 rfl) rfl trivial)))), ?_⟩
 refine WT.a1 ?_
 obtain ⟨r71, hr72, h⟩ := bnd h
 refine Ta rfl (Ca co114 (f_record_number_ok a0.Topic r66 x31 (1073741824 : Int) _ r71 hr72) (args4 rfl rfl rfl rfl)) rfl ?_ ?_
 rintro _ M73 _ hle74 ⟨_, ⟨rfl, rfl⟩, rfl⟩
 have L74 := L69.trans hle74
 refine ⟨(Sl rfl), ?_⟩
 refine WT.a0 (qt (Bv (!r71)) rfl (PO.not rfl) (qt (Bv (!r71)) rfl (Ag rfl) (Ti (Tc (Cd (b := !r71) rfl (fun hb76 => ?_) (fun hb76 => ?_))))))
 have h := ite_t hb76 h
 refine Sr (qu (pt g21 3) (Fa fo58_3 hs32_1 rfl) (qu (Iv a0.Topic) (Lb 0 pl3 rfl rfl rfl) ?_))
 obtain ⟨r77, hr78, h⟩ := bnd h
 refine We (Ca co30 (f_fault_New_ok ⟨#[116, 111, 112, 105, 99]⟩ a0.Topic (2 : Int) _ r77 hr78) (args3 rfl rfl rfl)) rfl ?_
 rintro _ M79 _ hle80 ⟨_, ⟨rfl, rfl⟩, rfl⟩
 exact WL.a0 (qa (GV r77) (Nt (Cr (Br (Tr (Dr (Rf h [] rfl (Rs rfl rfl) (L74.trans hle80) ⟨rfl, rfl⟩)))))))
 have h := ite_f hb76 h
 refine Cs (WC.draw [0, 1, 0, 4, 15, 31, 63] (.pure 0 (.pure 1 (.pure 2 (.alt 3 (.alt 4 (.pure 5 (.pure 6 .done)) .none) .none)))) mixed (by kernel_rfl) (qt (pt g21 4) rfl (Fa fo58_4 hs32_1 rfl) (qt (Iv a0.Part) rfl (Lb 0 pl3 rfl rfl rfl) (qt (.func (.func 112) #[] #[(pt g21 0)]) rfl (Mv hs32_3) ?_))))
 obtain ⟨r82, hr83, h⟩ := bnd h
 have h0_14 := h0_14.mono (hle69.trans hle74)
 have h0_15 := h0_15.mono (hle69.trans hle74)
 have h0_16 := h0_16.mono (hle69.trans hle74)
 have h0_17 := h0_17.mono (hle69.trans hle74)
 refine Ta rfl (EO.callV1 (first := #[]) (cap := #[(pt g21 0)]) co112 rfl (f_record_Check_1_ok (8 : Int) a0 _ _ _ _ _ _ h0_14 h0_15 h0_16 h0_17 r82 hr83) (argsV1 rfl rfl)) rfl ?_ ?_
 rintro _ M84 _ hle85 ⟨_, ⟨rfl, rfl⟩, rfl⟩
 have L85 := L74.trans hle85
 refine ⟨(Sk 1 rfl (Ss rfl (Lb 0 pl3 rfl rfl rfl) rfl (Ss rfl (Fa fo58_4 hs32_1 rfl) rfl trivial))), ?_⟩
 refine WT.a1 ?_
 obtain ⟨r87, hr88, h⟩ := bnd h
 refine Ta rfl (Ca co114 (f_record_number_ok a0.Part r82 (0 : Int) (255 : Int) _ r87 hr88) (args4 rfl rfl rfl rfl)) rfl ?_ ?_
 rintro _ M89 _ hle90 ⟨_, ⟨rfl, rfl⟩, rfl⟩
 have L90 := L85.trans hle90
 refine ⟨(Sl rfl), ?_⟩
 refine WT.a0 (qt (Bv (!r87)) rfl (PO.not rfl) (qt (Bv (!r87)) rfl (Ag rfl) (Ti (Tc (Cd (b := !r87) rfl (fun hb92 => ?_) (fun hb92 => ?_))))))
 have h := ite_t hb92 h
 refine Sr (qu (pt g21 4) (Fa fo58_4 hs32_1 rfl) (qu (Iv a0.Part) (Lb 0 pl3 rfl rfl rfl) ?_))
 obtain ⟨r93, hr94, h⟩ := bnd h
 refine We (Ca co30 (f_fault_New_ok ⟨#[112, 97, 114, 116]⟩ a0.Part (2 : Int) _ r93 hr94) (args3 rfl rfl rfl)) rfl ?_
 rintro _ M95 _ hle96 ⟨_, ⟨rfl, rfl⟩, rfl⟩
 exact WL.a0 (qa (GV r93) (Nt (Cr (Br (Tr (Dr (Rf h [] rfl (Rs rfl rfl) (L90.trans hle96) ⟨rfl, rfl⟩)))))))
 have h := ite_f hb92 h
 refine Cs (WC.draw [0, 1, 0, 4, 15, 31, 63] (.pure 0 (.pure 1 (.pure 2 (.alt 3 (.alt 4 (.pure 5 (.pure 6 .done)) .none) .none)))) mixed (by kernel_rfl) (qt (pt g21 5) rfl (Fa fo58_5 hs32_1 rfl) (qt (Iv a0.Leader) rfl (Lb 0 pl3 rfl rfl rfl) (qt (.func (.func 112) #[] #[(pt g21 0)]) rfl (Mv hs32_3) ?_))))
 obtain ⟨r98, hr99, h⟩ := bnd h
 have h0_14 := h0_14.mono (hle85.trans hle90)
 have h0_15 := h0_15.mono (hle85.trans hle90)
 have h0_16 := h0_16.mono (hle85.trans hle90)
 have h0_17 := h0_17.mono (hle85.trans hle90)
 refine Ta rfl (EO.callV1 (first := #[]) (cap := #[(pt g21 0)]) co112 rfl (f_record_Check_1_ok (16 : Int) a0 _ _ _ _ _ _ h0_14 h0_15 h0_16 h0_17 r98 hr99) (argsV1 rfl rfl)) rfl ?_ ?_
 rintro _ M100 _ hle101 ⟨_, ⟨rfl, rfl⟩, rfl⟩
 have L101 := L90.trans hle101
 refine ⟨(Sk 1 rfl (Ss rfl (Lb 0 pl3 rfl rfl rfl) rfl (Ss rfl (Fa fo58_5 hs32_1 rfl) rfl trivial))), ?_⟩
 refine WT.a1 ?_
 obtain ⟨r103, hr104, h⟩ := bnd h
 refine Ta rfl (Ca co114 (f_record_number_ok a0.Leader r98 (0 : Int) (64 : Int) _ r103 hr104) (args4 rfl rfl rfl rfl)) rfl ?_ ?_
 rintro _ M105 _ hle106 ⟨_, ⟨rfl, rfl⟩, rfl⟩
 have L106 := hle101.trans hle106
 have L106_1 := L101.trans hle106
 refine ⟨(Sl rfl), ?_⟩
 refine WT.a0 (qt (Bv (!r103)) rfl (PO.not rfl) (qt (Bv (!r103)) rfl (Ag rfl) (Ti (Tc (Cd (b := !r103) rfl (fun hb108 => ?_) (fun hb108 => ?_))))))
 have h := ite_t hb108 h
 refine Sr (qu (pt g21 5) (Fa fo58_5 hs32_1 rfl) (qu (Iv a0.Leader) (Lb 0 pl3 rfl rfl rfl) ?_))
 obtain ⟨r109, hr110, h⟩ := bnd h
 refine We (Ca co30 (f_fault_New_ok ⟨#[108, 101, 97, 100, 101, 114]⟩ a0.Leader (2 : Int) _ r109 hr110) (args3 rfl rfl rfl)) rfl ?_
 rintro _ M111 _ hle112 ⟨_, ⟨rfl, rfl⟩, rfl⟩
 exact WL.a0 (qa (GV r109) (Nt (Cr (Br (Tr (Dr (Rf h [] rfl (Rs rfl rfl) (L106_1.trans hle112) ⟨rfl, rfl⟩)))))))
 have h := ite_f hb108 h
 obtain ⟨x114, hj115, h⟩ := bnd h
 refine Jf (fun (x114 : Bool) ρ' M' H' => M105.le M' ∧ [(g21, .cells (l58 a0 v0_14 v0_15 v0_16 v0_17).toArray 58 (0, 0))] :: F = H' ∧ ρ' 1 = (pt g21 0) ∧ ρ' 3 = (.func (.func 112) #[] #[(pt g21 0)]) ∧ ρ' 5 = (.func (.func 113) #[] #[]) ∧ ρ' 72 = (Bv x114)) x114 ?_ ?_
 have h := hj115
 refine WC.draw [0, 1, 0, 4, 15, 31, 63, 127, 255, 127, 639, 2047, 4095, 8191, 16383, 32767, 65535, 32767, 163839, 524287, 1048575, 2097151, 4194303] (.pure 0 (.pure 1 (.pure 2 (.alt 3 (.alt 4 (.pure 5 (.pure 6 (.pure 7 (.pure 8 (.pure 9 (.alt 10 (.alt 11 (.pure 12 (.pure 13 (.pure 14 (.pure 15 (.pure 16 (.pure 17 (.alt 18 (.alt 19 (.pure 20 (.pure 21 (.pure 22 .done))) .none) .none))))))) .none) .none)))))) .none) .none)))) mixed (by kernel_rfl) (qt (pt g21 6) rfl (Fa fo58_6 hs32_1 rfl) (qt (Iv a0.Client) rfl (Lb 0 pl3 rfl rfl rfl) (qt (.func (.func 112) #[] #[(pt g21 0)]) rfl (Mv hs32_3) ?_)))
 obtain ⟨r116, hr117, h⟩ := bnd h
 have h0_14 := h0_14.mono L106
 have h0_15 := h0_15.mono L106
 have h0_16 := h0_16.mono L106
 have h0_17 := h0_17.mono L106
 refine Ta rfl (EO.callV1 (first := #[]) (cap := #[(pt g21 0)]) co112 rfl (f_record_Check_1_ok (32 : Int) a0 _ _ _ _ _ _ h0_14 h0_15 h0_16 h0_17 r116 hr117) (argsV1 rfl rfl)) rfl ?_ ?_
 rintro _ M118 _ hle119 ⟨_, ⟨rfl, rfl⟩, rfl⟩
 refine ⟨(Sk 1 rfl (Ss rfl (Lb 0 pl3 rfl rfl rfl) rfl (Ss rfl (Fa fo58_6 hs32_1 rfl) rfl trivial))), ?_⟩
 refine WT.a1 ?_
 obtain ⟨r121, hr122, h⟩ := bnd h
 refine Ta rfl (Ca co114 (f_record_number_ok a0.Client r116 (1 : Int) (1073741824 : Int) _ r121 hr122) (args4 rfl rfl rfl rfl)) rfl ?_ ?_
 rintro _ M123 _ hle124 ⟨_, ⟨rfl, rfl⟩, rfl⟩
 have L124 := hle119.trans hle124
 refine ⟨(Sl rfl), ?_⟩
 refine WT.a0 (qt (Bv (!r121)) rfl (PO.not rfl) (qt (Bv (!r121)) rfl (Mv rfl) ?_))
 rcases Bt (!r121) with hb126 | hb126
 have h := ite_t hb126 h
 refine Tf 79 rfl rfl rfl hb126 rfl (Tf 79 rfl rfl rfl hb126 rfl (Tf 79 rfl rfl rfl hb126 rfl (Tg 79 rfl rfl rfl hb126 rfl ⟨(Sk 1 rfl (St (Sf 79 rfl rfl rfl hb126 rfl) (St (Sf 79 rfl rfl rfl hb126 rfl) (Sl rfl)))), ?_⟩ ?_)))
 refine Tg 79 rfl rfl rfl hb126 rfl ⟨(Sl rfl), ?_⟩ ?_
 refine Tf 79 rfl rfl rfl hb126 rfl (qt (Bv true) rfl (Pt rfl hb126 rfl) (qt (Bv true) rfl (Mv rfl) (Tf 87 rfl rfl rfl rfl rfl (Tf 87 rfl rfl rfl rfl rfl (Tf 87 rfl rfl rfl rfl rfl (Tg 87 rfl rfl rfl rfl rfl ⟨(Sk 1 rfl (St (Sf 87 rfl rfl rfl rfl rfl) (St (Sf 87 rfl rfl rfl rfl rfl) (Sl rfl)))), ?_⟩ ?_))))))
 refine Tg 87 rfl rfl rfl rfl rfl ⟨(Sl rfl), ?_⟩ ?_
 refine Tf 87 rfl rfl rfl rfl rfl (qt (Bv true) rfl (Pt rfl rfl rfl) (qt (Bv true) rfl (Ag rfl) (Ti ?_)))
 obtain rfl := oi h
 exact Tj ⟨L124, rfl, hs32_1, hs32_3, rfl, rfl⟩
 exact Tz
 exact Tz
 exact Tz
 exact Tz
 have h := ite_f hb126 h
 refine Tn (pt g21 7) 79 rfl rfl rfl hb126 (Fa fo58_7 hs32_1 rfl) rfl (Tn (Iv a0.Serial) 79 rfl rfl rfl hb126 (Lb 0 pl3 rfl rfl rfl) rfl (Tn (.func (.func 112) #[] #[(pt g21 0)]) 79 rfl rfl rfl hb126 (Mv hs32_3) rfl ?_))
 obtain ⟨r127, hr128, h⟩ := bnd h
 have h0_14 := h0_14.mono L124
 have h0_15 := h0_15.mono L124
 have h0_16 := h0_16.mono L124
 have h0_17 := h0_17.mono L124
 refine WT.altOn 79 rfl rfl rfl hb126 (EO.callV1 (first := #[]) (cap := #[(pt g21 0)]) co112 rfl (f_record_Check_1_ok (32 : Int) a0 _ _ _ _ _ _ h0_14 h0_15 h0_16 h0_17 r127 hr128) (argsV1 rfl rfl)) rfl ?_ ?_
 rintro _ M129 _ hle130 ⟨_, ⟨rfl, rfl⟩, rfl⟩
 refine ⟨(Sk 1 rfl (St (StabA.on 79 rfl rfl rfl hb126 (Lb 0 pl3 rfl rfl rfl) rfl) (St (StabA.on 79 rfl rfl rfl hb126 (Fa fo58_7 hs32_1 rfl) rfl) (Sl rfl)))), ?_⟩
 refine WT.a1 ?_
 obtain ⟨r132, hr133, h⟩ := bnd h
 refine WT.altOn 79 rfl rfl rfl hb126 (Ca co114 (f_record_number_ok a0.Serial r127 (1 : Int) (1073741824 : Int) _ r132 hr133) (args4 rfl rfl rfl rfl)) rfl ?_ ?_
 rintro _ M134 _ hle135 ⟨_, ⟨rfl, rfl⟩, rfl⟩
 refine ⟨(Sl rfl), ?_⟩
 refine WT.a0 (Tn (Bv (!r132)) 79 rfl rfl rfl hb126 (PO.not rfl) rfl (qt (Bv (!r132)) rfl (Pf rfl hb126 rfl) (qt (Bv (!r132)) rfl (Mv rfl) ?_)))
 rcases Bt (!r132) with hb137 | hb137
 have h := ite_t hb137 h
 refine Tf 87 rfl rfl rfl hb137 rfl (Tf 87 rfl rfl rfl hb137 rfl (Tf 87 rfl rfl rfl hb137 rfl (Tg 87 rfl rfl rfl hb137 rfl ⟨(Sk 1 rfl (St (Sf 87 rfl rfl rfl hb137 rfl) (St (Sf 87 rfl rfl rfl hb137 rfl) (Sl rfl)))), ?_⟩ ?_)))
 refine Tg 87 rfl rfl rfl hb137 rfl ⟨(Sl rfl), ?_⟩ ?_
 refine Tf 87 rfl rfl rfl hb137 rfl (qt (Bv true) rfl (Pt rfl hb137 rfl) (qt (Bv true) rfl (Ag rfl) (Ti ?_)))
 obtain rfl := oi h
 exact Tj ⟨((L124.trans hle130).trans hle135), rfl, hs32_1, hs32_3, rfl, rfl⟩
 exact Tz
 exact Tz
 have h := ite_f hb137 h
 refine Tn (pt g21 8) 87 rfl rfl rfl hb137 (Fa fo58_8 hs32_1 rfl) rfl (Tn (Iv a0.Code) 87 rfl rfl rfl hb137 (Lb 0 pl3 rfl rfl rfl) rfl (Tn (.func (.func 112) #[] #[(pt g21 0)]) 87 rfl rfl rfl hb137 (Mv hs32_3) rfl ?_))
 obtain ⟨r138, hr139, h⟩ := bnd h
 have h0_14 := h0_14.mono (hle130.trans hle135)
 have h0_15 := h0_15.mono (hle130.trans hle135)
 have h0_16 := h0_16.mono (hle130.trans hle135)
 have h0_17 := h0_17.mono (hle130.trans hle135)
 refine WT.altOn 87 rfl rfl rfl hb137 (EO.callV1 (first := #[]) (cap := #[(pt g21 0)]) co112 rfl (f_record_Check_1_ok (32 : Int) a0 _ _ _ _ _ _ h0_14 h0_15 h0_16 h0_17 r138 hr139) (argsV1 rfl rfl)) rfl ?_ ?_
 rintro _ M140 _ hle141 ⟨_, ⟨rfl, rfl⟩, rfl⟩
 refine ⟨(Sk 1 rfl (St (StabA.on 87 rfl rfl rfl hb137 (Lb 0 pl3 rfl rfl rfl) rfl) (St (StabA.on 87 rfl rfl rfl hb137 (Fa fo58_8 hs32_1 rfl) rfl) (Sl rfl)))), ?_⟩
 refine WT.a1 ?_
 obtain ⟨r143, hr144, h⟩ := bnd h
 refine WT.altOn 87 rfl rfl rfl hb137 (Ca co114 (f_record_number_ok a0.Code r138 (0 : Int) (21 : Int) _ r143 hr144) (args4 rfl rfl rfl rfl)) rfl ?_ ?_
 rintro _ M145 _ hle146 ⟨_, ⟨rfl, rfl⟩, rfl⟩
 refine ⟨(Sl rfl), ?_⟩
 refine WT.a0 (Tn (Bv (!r143)) 87 rfl rfl rfl hb137 (PO.not rfl) rfl (qt (Bv (!r143)) rfl (Pf rfl hb137 rfl) (qt (Bv (!r143)) rfl (Ag rfl) (Ti ?_))))
 obtain rfl := oi h
 exact Tj ⟨((((L124.trans hle130).trans hle135).trans hle141).trans hle146), rfl, hs32_1, hs32_3, rfl, rfl⟩
 exact Tz
 exact Tz
 exact Tz
 exact Tz
 exact Tz
 exact Tz
 rintro ρ115 M115 H115 ⟨hle115, rfl, hs115_1, hs115_3, hs115_5, hs115_72⟩
 have L115 := L106.trans hle115
 have L115_1 := L106_1.trans hle115
 refine Cd (b := x114) hs115_72 (fun hb148 => ?_) (fun hb148 => ?_)
 have h := ite_t hb148 h
 refine Sr (qu (pt g21 6) (Fa fo58_6 hs115_1 rfl) (qu (Iv a0.Client) (Lb 0 pl3 rfl rfl rfl) ?_))
 obtain ⟨r149, hr150, h⟩ := bnd h
 refine We (Ca co30 (f_fault_New_ok ⟨#[97, 115, 107, 101, 114]⟩ a0.Client (2 : Int) _ r149 hr150) (args3 rfl rfl rfl)) rfl ?_
 rintro _ M151 _ hle152 ⟨_, ⟨rfl, rfl⟩, rfl⟩
 exact WL.a0 (qa (GV r149) (Nt (Cr (Br (Tr (Dr (Rf h [] rfl (Rs rfl rfl) (L115_1.trans hle152) ⟨rfl, rfl⟩)))))))
 have h := ite_f hb148 h
 obtain ⟨x154, hj155, h⟩ := bnd h
 refine Jf (fun (x154 : Bool) ρ' M' H' => M115.le M' ∧ [(g21, .cells (l58 a0 v0_14 v0_15 v0_16 v0_17).toArray 58 (0, 0))] :: F = H' ∧ ρ' 1 = (pt g21 0) ∧ ρ' 3 = (.func (.func 112) #[] #[(pt g21 0)]) ∧ ρ' 5 = (.func (.func 113) #[] #[]) ∧ ρ' 98 = (Bv x154)) x154 ?_ ?_
 have h := hj155
 refine Cg (qM (.func (.func 112) #[] #[(pt g21 0)]) hs115_3 ?_)
 obtain ⟨r156, hr157, h⟩ := bnd h
 have h0_14 := h0_14.mono L115
 have h0_15 := h0_15.mono L115
 have h0_16 := h0_16.mono L115
 have h0_17 := h0_17.mono L115
 refine We (EO.callV1 (first := #[]) (cap := #[(pt g21 0)]) co112 rfl (f_record_Check_1_ok (64 : Int) a0 _ _ _ _ _ _ h0_14 h0_15 h0_16 h0_17 r156 hr157) (argsV1 rfl rfl)) rfl ?_
 rintro _ M158 _ hle159 ⟨_, ⟨rfl, rfl⟩, rfl⟩
 refine WL.a1 (qu (Bv (!r156)) (PO.not rfl) (qm (Bv (!r156)) ?_))
 rcases Bt (!r156) with hb161 | hb161
 have h := ite_t hb161 h
 refine qo 102 hb161 (pt g21 9) (Fa fo58_9 hs115_1 rfl) (qo 102 hb161 (Bv a0.Flag) (Lb 0 pl4 rfl rfl rfl) (qu (Bv a0.Flag) (Pt rfl hb161 rfl) (qa (Bv a0.Flag) (Wz ?_))))
 obtain rfl := oi h
 exact Tj ⟨hle159, rfl, hs115_1, hs115_3, hs115_5, rfl⟩
 have h := ite_f hb161 h
 iterate 2 refine Of 102 rfl rfl hb161 rfl ?_
 refine qu (Bv false) (Pf rfl hb161 rfl) (qa (Bv false) (Wz ?_))
 obtain rfl := oi h
 exact Tj ⟨hle159, rfl, hs115_1, hs115_3, hs115_5, rfl⟩
 rintro ρ155 M155 H155 ⟨hle155, rfl, hs155_1, hs155_3, hs155_5, hs155_98⟩
 have L155 := L115.trans hle155
 have L155_1 := L115_1.trans hle155
 refine Cd (b := x154) hs155_98 (fun hb162 => ?_) (fun hb162 => ?_)
 have h := ite_t hb162 h
 refine Sr ?_
 obtain ⟨r163, hr164, h⟩ := bnd h
 refine We (Ca co30 (f_fault_New_ok ⟨#[102, 108, 97, 103]⟩ (1 : Int) (1 : Int) _ r163 hr164) (args3 rfl rfl rfl)) rfl ?_
 rintro _ M165 _ hle166 ⟨_, ⟨rfl, rfl⟩, rfl⟩
 exact WL.a0 (qa (GV r163) (Nt (Cr (Br (Tr (Dr (Rf h [] rfl (Rs rfl rfl) (L155_1.trans hle166) ⟨rfl, rfl⟩)))))))
 have h := ite_f hb162 h
 obtain ⟨x168, hj169, h⟩ := bnd h
 refine Jf (fun (x168 : Bool) ρ' M' H' => M155.le M' ∧ [(g21, .cells (l58 a0 v0_14 v0_15 v0_16 v0_17).toArray 58 (0, 0))] :: F = H' ∧ ρ' 1 = (pt g21 0) ∧ ρ' 3 = (.func (.func 112) #[] #[(pt g21 0)]) ∧ ρ' 5 = (.func (.func 113) #[] #[]) ∧ ρ' 107 = (Bv x168)) x168 ?_ ?_
 have h := hj169
 refine WC.draw [0, 1, 0, 4, 15, 31, 63, 127, 255, 127, 639, 2047, 4095, 8191, 16383, 32767, 65535, 32767, 163839, 524287, 1048575, 2097151, 4194303] (.pure 0 (.pure 1 (.pure 2 (.alt 3 (.alt 4 (.pure 5 (.pure 6 (.pure 7 (.pure 8 (.pure 9 (.alt 10 (.alt 11 (.pure 12 (.pure 13 (.pure 14 (.pure 15 (.pure 16 (.pure 17 (.alt 18 (.alt 19 (.pure 20 (.pure 21 (.pure 22 .done))) .none) .none))))))) .none) .none)))))) .none) .none)))) mixed (by kernel_rfl) (qt (pt g21 10) rfl (Fa fo58_10 hs155_1 rfl) (qt (Sv a0.Name) rfl (Lb 0 pl9 rfl rfl rfl) (qt (.func (.func 112) #[] #[(pt g21 0)]) rfl (Mv hs155_3) ?_)))
 obtain ⟨r170, hr171, h⟩ := bnd h
 have h0_14 := h0_14.mono L155
 have h0_15 := h0_15.mono L155
 have h0_16 := h0_16.mono L155
 have h0_17 := h0_17.mono L155
 refine Ta rfl (EO.callV1 (first := #[]) (cap := #[(pt g21 0)]) co112 rfl (f_record_Check_1_ok (128 : Int) a0 _ _ _ _ _ _ h0_14 h0_15 h0_16 h0_17 r170 hr171) (argsV1 rfl rfl)) rfl ?_ ?_
 rintro _ M172 _ hle173 ⟨_, ⟨rfl, rfl⟩, rfl⟩
 refine ⟨(Sk 1 rfl (Ss rfl (Lb 0 pl9 rfl rfl rfl) rfl (Ss rfl (Fa fo58_10 hs155_1 rfl) rfl trivial))), ?_⟩
 refine WT.a1 ?_
 obtain ⟨r175, hr176, h⟩ := bnd h
 refine Ta rfl (Ca co115 (f_record_text_116_ok a0.Name r170 _ r175 hr176) (args3 rfl rfl rfl)) rfl ?_ ?_
 rintro _ M177 _ hle178 ⟨_, ⟨rfl, rfl⟩, rfl⟩
 have L178 := hle173.trans hle178
 refine ⟨(Sl rfl), ?_⟩
 refine WT.a0 (qt (Bv (!r175)) rfl (PO.not rfl) (qt (Bv (!r175)) rfl (Mv rfl) ?_))
 rcases Bt (!r175) with hb180 | hb180
 have h := ite_t hb180 h
 refine Tf 114 rfl rfl rfl hb180 rfl (Tf 114 rfl rfl rfl hb180 rfl (Tf 114 rfl rfl rfl hb180 rfl (Tg 114 rfl rfl rfl hb180 rfl ⟨(Sk 1 rfl (St (Sf 114 rfl rfl rfl hb180 rfl) (St (Sf 114 rfl rfl rfl hb180 rfl) (Sl rfl)))), ?_⟩ ?_)))
 refine Tg 114 rfl rfl rfl hb180 rfl ⟨(Sl rfl), ?_⟩ ?_
 refine Tf 114 rfl rfl rfl hb180 rfl (qt (Bv true) rfl (Pt rfl hb180 rfl) (qt (Bv true) rfl (Mv rfl) (Tf 122 rfl rfl rfl rfl rfl (Tf 122 rfl rfl rfl rfl rfl (Tf 122 rfl rfl rfl rfl rfl (Tg 122 rfl rfl rfl rfl rfl ⟨(Sk 1 rfl (St (Sf 122 rfl rfl rfl rfl rfl) (St (Sf 122 rfl rfl rfl rfl rfl) (Sl rfl)))), ?_⟩ ?_))))))
 refine Tg 122 rfl rfl rfl rfl rfl ⟨(Sl rfl), ?_⟩ ?_
 refine Tf 122 rfl rfl rfl rfl rfl (qt (Bv true) rfl (Pt rfl rfl rfl) (qt (Bv true) rfl (Ag rfl) (Ti ?_)))
 obtain rfl := oi h
 exact Tj ⟨L178, rfl, hs155_1, hs155_3, hs155_5, rfl⟩
 exact Tz
 exact Tz
 exact Tz
 exact Tz
 have h := ite_f hb180 h
 refine Tn (pt g21 11) 114 rfl rfl rfl hb180 (Fa fo58_11 hs155_1 rfl) rfl (Tn (Sv a0.Key) 114 rfl rfl rfl hb180 (Lb 0 pl9 rfl rfl rfl) rfl (Tn (.func (.func 112) #[] #[(pt g21 0)]) 114 rfl rfl rfl hb180 (Mv hs155_3) rfl ?_))
 obtain ⟨r181, hr182, h⟩ := bnd h
 have h0_14 := h0_14.mono L178
 have h0_15 := h0_15.mono L178
 have h0_16 := h0_16.mono L178
 have h0_17 := h0_17.mono L178
 refine WT.altOn 114 rfl rfl rfl hb180 (EO.callV1 (first := #[]) (cap := #[(pt g21 0)]) co112 rfl (f_record_Check_1_ok (256 : Int) a0 _ _ _ _ _ _ h0_14 h0_15 h0_16 h0_17 r181 hr182) (argsV1 rfl rfl)) rfl ?_ ?_
 rintro _ M183 _ hle184 ⟨_, ⟨rfl, rfl⟩, rfl⟩
 refine ⟨(Sk 1 rfl (St (StabA.on 114 rfl rfl rfl hb180 (Lb 0 pl9 rfl rfl rfl) rfl) (St (StabA.on 114 rfl rfl rfl hb180 (Fa fo58_11 hs155_1 rfl) rfl) (Sl rfl)))), ?_⟩
 refine WT.a1 ?_
 obtain ⟨r186, hr187, h⟩ := bnd h
 refine WT.altOn 114 rfl rfl rfl hb180 (Ca co115 (f_record_text_116_ok a0.Key r181 _ r186 hr187) (args3 rfl rfl rfl)) rfl ?_ ?_
 rintro _ M188 _ hle189 ⟨_, ⟨rfl, rfl⟩, rfl⟩
 refine ⟨(Sl rfl), ?_⟩
 refine WT.a0 (Tn (Bv (!r186)) 114 rfl rfl rfl hb180 (PO.not rfl) rfl (qt (Bv (!r186)) rfl (Pf rfl hb180 rfl) (qt (Bv (!r186)) rfl (Mv rfl) ?_)))
 rcases Bt (!r186) with hb191 | hb191
 have h := ite_t hb191 h
 refine Tf 122 rfl rfl rfl hb191 rfl (Tf 122 rfl rfl rfl hb191 rfl (Tf 122 rfl rfl rfl hb191 rfl (Tg 122 rfl rfl rfl hb191 rfl ⟨(Sk 1 rfl (St (Sf 122 rfl rfl rfl hb191 rfl) (St (Sf 122 rfl rfl rfl hb191 rfl) (Sl rfl)))), ?_⟩ ?_)))
 refine Tg 122 rfl rfl rfl hb191 rfl ⟨(Sl rfl), ?_⟩ ?_
 refine Tf 122 rfl rfl rfl hb191 rfl (qt (Bv true) rfl (Pt rfl hb191 rfl) (qt (Bv true) rfl (Ag rfl) (Ti ?_)))
 obtain rfl := oi h
 exact Tj ⟨((L178.trans hle184).trans hle189), rfl, hs155_1, hs155_3, hs155_5, rfl⟩
 exact Tz
 exact Tz
 have h := ite_f hb191 h
 refine Tn (pt g21 13) 122 rfl rfl rfl hb191 (Fa fo58_13 hs155_1 rfl) rfl (Tn (Sv a0.Rack) 122 rfl rfl rfl hb191 (Lb 0 pl9 rfl rfl rfl) rfl (Tn (.func (.func 112) #[] #[(pt g21 0)]) 122 rfl rfl rfl hb191 (Mv hs155_3) rfl ?_))
 obtain ⟨r192, hr193, h⟩ := bnd h
 have h0_14 := h0_14.mono (hle184.trans hle189)
 have h0_15 := h0_15.mono (hle184.trans hle189)
 have h0_16 := h0_16.mono (hle184.trans hle189)
 have h0_17 := h0_17.mono (hle184.trans hle189)
 refine WT.altOn 122 rfl rfl rfl hb191 (EO.callV1 (first := #[]) (cap := #[(pt g21 0)]) co112 rfl (f_record_Check_1_ok (1024 : Int) a0 _ _ _ _ _ _ h0_14 h0_15 h0_16 h0_17 r192 hr193) (argsV1 rfl rfl)) rfl ?_ ?_
 rintro _ M194 _ hle195 ⟨_, ⟨rfl, rfl⟩, rfl⟩
 refine ⟨(Sk 1 rfl (St (StabA.on 122 rfl rfl rfl hb191 (Lb 0 pl9 rfl rfl rfl) rfl) (St (StabA.on 122 rfl rfl rfl hb191 (Fa fo58_13 hs155_1 rfl) rfl) (Sl rfl)))), ?_⟩
 refine WT.a1 ?_
 obtain ⟨r197, hr198, h⟩ := bnd h
 refine WT.altOn 122 rfl rfl rfl hb191 (Ca co115 (f_record_text_116_ok a0.Rack r192 _ r197 hr198) (args3 rfl rfl rfl)) rfl ?_ ?_
 rintro _ M199 _ hle200 ⟨_, ⟨rfl, rfl⟩, rfl⟩
 refine ⟨(Sl rfl), ?_⟩
 refine WT.a0 (Tn (Bv (!r197)) 122 rfl rfl rfl hb191 (PO.not rfl) rfl (qt (Bv (!r197)) rfl (Pf rfl hb191 rfl) (qt (Bv (!r197)) rfl (Ag rfl) (Ti ?_))))
 obtain rfl := oi h
 exact Tj ⟨((((L178.trans hle184).trans hle189).trans hle195).trans hle200), rfl, hs155_1, hs155_3, hs155_5, rfl⟩
 exact Tz
 exact Tz
 exact Tz
 exact Tz
 exact Tz
 exact Tz
 rintro ρ169 M169 H169 ⟨hle169, rfl, hs169_1, hs169_3, hs169_5, hs169_107⟩
 have L169 := L155.trans hle169
 have L169_1 := L155_1.trans hle169
 refine Cd (b := x168) hs169_107 (fun hb202 => ?_) (fun hb202 => ?_)
 have h := ite_t hb202 h
 refine Sr (qu (pt g21 10) (Fa fo58_10 hs169_1 rfl) (qu (Sv a0.Name) (Lb 0 pl9 rfl rfl rfl) (qu (Iv (a0.Name.size : Int)) (PO.lenStr Tryz.underlying9 rfl) ?_)))
 obtain ⟨r203, hr204, h⟩ := bnd h
 refine We (Ca co30 (f_fault_New_ok ⟨#[110, 97, 109, 101]⟩ (a0.Name.size : Int) (1 : Int) _ r203 hr204) (args3 rfl rfl rfl)) rfl ?_
 rintro _ M205 _ hle206 ⟨_, ⟨rfl, rfl⟩, rfl⟩
 exact WL.a0 (qa (GV r203) (Nt (Cr (Br (Tr (Dr (Rf h [] rfl (Rs rfl rfl) (L169_1.trans hle206) ⟨rfl, rfl⟩)))))))
 have h := ite_f hb202 h
 obtain ⟨x208, hj209, h⟩ := bnd h
 refine Jf (fun (x208 : Bool) ρ' M' H' => M169.le M' ∧ [(g21, .cells (l58 a0 v0_14 v0_15 v0_16 v0_17).toArray 58 (0, 0))] :: F = H' ∧ ρ' 1 = (pt g21 0) ∧ ρ' 3 = (.func (.func 112) #[] #[(pt g21 0)]) ∧ ρ' 134 = (Bv x208)) x208 ?_ ?_
 have h := hj209
 refine WC.draw [0, 1, 0, 4, 0, 31, 63, 127, 255, 511, 1023, 2047, 4095, 8191, 16383, 32767, 65535] (.pure 0 (.pure 1 (.pure 2 (.pure 4 (.alt 3 (.alt 5 (.pure 6 (.pure 7 (.pure 8 (.pure 9 (.pure 10 (.pure 11 (.pure 12 (.pure 13 (.pure 14 (.pure 15 (.pure 16 .done))))))))))) .none) .none))))) mixed (by kernel_rfl) (qt (pt g21 12) rfl (Fa fo58_12 hs169_1 rfl) (qt (Sv a0.Value) rfl (Lb 0 pl9 rfl rfl rfl) (qt (.func (.func 112) #[] #[(pt g21 0)]) rfl (Mv hs169_3) (qt (.func (.func 113) #[] #[]) rfl (Mv hs169_5) ?_))))
 obtain ⟨r210, hr211, h⟩ := bnd h
 have h0_14 := h0_14.mono L169
 have h0_15 := h0_15.mono L169
 have h0_16 := h0_16.mono L169
 have h0_17 := h0_17.mono L169
 refine Ta rfl (EO.callV1 (first := #[]) (cap := #[(pt g21 0)]) co112 rfl (f_record_Check_1_ok (512 : Int) a0 _ _ _ _ _ _ h0_14 h0_15 h0_16 h0_17 r210 hr211) (argsV1 rfl rfl)) rfl ?_ ?_
 rintro _ M212 _ hle213 ⟨_, ⟨rfl, rfl⟩, rfl⟩
 refine ⟨(Ss rfl (Mv hs169_5) rfl (Sk 1 rfl (Ss rfl (Lb 0 pl9 rfl rfl rfl) rfl (Ss rfl (Fa fo58_12 hs169_1 rfl) rfl trivial)))), ?_⟩
 refine WT.a1 ?_
 obtain ⟨r215, hr216, h⟩ := bnd h
 refine Ta rfl (Ca co115 (f_record_text_113_ok a0.Value r210 _ r215 hr216) (args3 rfl rfl rfl)) rfl ?_ ?_
 rintro _ M217 _ hle218 ⟨_, ⟨rfl, rfl⟩, rfl⟩
 refine ⟨(Sl rfl), ?_⟩
 refine WT.a0 (qt (Bv (!r215)) rfl (PO.not rfl) (qt (Bv (!r215)) rfl (Mv rfl) ?_))
 rcases Bt (!r215) with hb220 | hb220
 have h := ite_t hb220 h
 refine Tf 142 rfl rfl rfl hb220 rfl (Tf 142 rfl rfl rfl hb220 rfl (Tf 142 rfl rfl rfl hb220 rfl (WT.pureOffU 145 rfl rfl rfl  rfl (WT.pureOffU 145 rfl rfl rfl  rfl (WT.pureOffU 145 rfl rfl rfl  rfl (Tf 142 rfl rfl rfl hb220 rfl (qt (Bv true) rfl (Pt rfl hb220 rfl) (qt (Bv true) rfl (Ag rfl) (Ti ?_)))))))))
 obtain rfl := oi h
 exact Tj ⟨(hle213.trans hle218), rfl, hs169_1, hs169_3, rfl⟩
 have h := ite_f hb220 h
 refine Tn (pt g21 9) 142 rfl rfl rfl hb220 (Fa fo58_9 hs169_1 rfl) rfl (Tn (Bv a0.Flag) 142 rfl rfl rfl hb220 (Lb 0 pl4 rfl rfl rfl) rfl (Tn (Bv a0.Flag) 142 rfl rfl rfl hb220 (Mv rfl) rfl ?_))
 rcases Bt (a0.Flag) with hb221 | hb221
 have h := ite_t hb221 h
 refine Tn (pt g21 12) 145 rfl rfl rfl hb221 (Fa fo58_12 hs169_1 rfl) rfl (Tn (Sv a0.Value) 145 rfl rfl rfl hb221 (Lb 0 pl9 rfl rfl rfl) rfl (Tn (Bv (!decide (a0.Value = (⟨#[]⟩ : ByteArray)))) 145 rfl rfl rfl hb221 (PO.sneq rfl rfl) rfl (Tn (Bv (!decide (a0.Value = (⟨#[]⟩ : ByteArray)))) 142 rfl rfl rfl hb220 (Pt rfl hb221 rfl) rfl (qt (Bv (!decide (a0.Value = (⟨#[]⟩ : ByteArray)))) rfl (Pf rfl hb220 rfl) (qt (Bv (!decide (a0.Value = (⟨#[]⟩ : ByteArray)))) rfl (Ag rfl) (Ti ?_))))))
 obtain rfl := oi h
 exact Tj ⟨(hle213.trans hle218), rfl, hs169_1, hs169_3, rfl⟩
 have h := ite_f hb221 h
 refine Tf 145 rfl rfl rfl hb221 rfl (Tf 145 rfl rfl rfl hb221 rfl (Tf 145 rfl rfl rfl hb221 rfl (Tn (Bv false) 142 rfl rfl rfl hb220 (Pf rfl hb221 rfl) rfl (qt (Bv false) rfl (Pf rfl hb220 rfl) (qt (Bv false) rfl (Ag rfl) (Ti ?_))))))
 obtain rfl := oi h
 exact Tj ⟨(hle213.trans hle218), rfl, hs169_1, hs169_3, rfl⟩
 exact Tz
 exact Tz
 rintro ρ209 M209 H209 ⟨hle209, rfl, hs209_1, hs209_3, hs209_134⟩
 have L209 := L169.trans hle209
 have L209_1 := L169_1.trans hle209
 refine Cd (b := x208) hs209_134 (fun hb222 => ?_) (fun hb222 => ?_)
 have h := ite_t hb222 h
 refine Sr (qu (pt g21 12) (Fa fo58_12 hs209_1 rfl) (qu (Sv a0.Value) (Lb 0 pl9 rfl rfl rfl) (qu (Iv (a0.Value.size : Int)) (PO.lenStr Tryz.underlying9 rfl) ?_)))
 obtain ⟨r223, hr224, h⟩ := bnd h
 refine We (Ca co30 (f_fault_New_ok ⟨#[118, 97, 108, 117, 101]⟩ (a0.Value.size : Int) (6 : Int) _ r223 hr224) (args3 rfl rfl rfl)) rfl ?_
 rintro _ M225 _ hle226 ⟨_, ⟨rfl, rfl⟩, rfl⟩
 exact WL.a0 (qa (GV r223) (Nt (Cr (Br (Tr (Dr (Rf h [] rfl (Rs rfl rfl) (L209_1.trans hle226) ⟨rfl, rfl⟩)))))))
 have h := ite_f hb222 h
 obtain ⟨x228, hj229, h⟩ := bnd h
 refine Jf (fun (x228 : Bool) ρ' M' H' => M209.le M' ∧ [(g21, .cells (l58 a0 v0_14 v0_15 v0_16 v0_17).toArray 58 (0, 0))] :: F = H' ∧ ρ' 1 = (pt g21 0) ∧ ρ' 155 = (Bv x228)) x228 ?_ ?_
 have h := hj229
 refine WC.draw [0, 1, 0, 4, 15, 31, 63, 127, 255, 127, 639, 2047, 4095, 8191, 16383, 32767, 65535, 32767, 163839, 524287, 1048575, 2097151, 4194303, 8388607, 16777215, 8388607, 41943039, 134217727, 268435455, 536870911, 1073741823] (.pure 0 (.pure 1 (.pure 2 (.alt 3 (.alt 4 (.pure 5 (.pure 6 (.pure 7 (.pure 8 (.pure 9 (.alt 10 (.alt 11 (.pure 12 (.pure 13 (.pure 14 (.pure 15 (.pure 16 (.pure 17 (.alt 18 (.alt 19 (.pure 20 (.pure 21 (.pure 22 (.pure 23 (.pure 24 (.pure 25 (.alt 26 (.alt 27 (.pure 28 (.pure 29 (.pure 30 .done))) .none) .none))))))) .none) .none))))))) .none) .none)))))) .none) .none)))) mixed (by kernel_rfl) (qt (pt g21 14) rfl (Fa fo58_14 hs209_1 rfl) (qt v0_14 rfl (Lb 0 pl56 rfl rfl rfl) (qt (.func (.func 112) #[] #[(pt g21 0)]) rfl (Mv hs209_3) ?_)))
 obtain ⟨r230, hr231, h⟩ := bnd h
 have h0_14 := h0_14.mono L209
 have h0_15 := h0_15.mono L209
 have h0_16 := h0_16.mono L209
 have h0_17 := h0_17.mono L209
 refine Ta rfl (EO.callV1 (first := #[]) (cap := #[(pt g21 0)]) co112 rfl (f_record_Check_1_ok (2048 : Int) a0 _ _ _ _ _ _ h0_14 h0_15 h0_16 h0_17 r230 hr231) (argsV1 rfl rfl)) rfl ?_ ?_
 rintro _ M232 _ hle233 ⟨_, ⟨rfl, rfl⟩, rfl⟩
 refine ⟨(Sk 1 rfl (Ss rfl (Lb 0 pl56 rfl rfl rfl) rfl (Ss rfl (Fa fo58_14 hs209_1 rfl) rfl trivial))), ?_⟩
 refine WT.a1 ?_
 obtain ⟨r235, hr236, h⟩ := bnd h
 have h0_14 := h0_14.mono hle233
 refine Ta rfl (Ca co117 (f_record_row_ok a0.Ids r230 _ _ h0_14 r235 hr236) (args2 rfl rfl)) rfl ?_ ?_
 rintro _ M237 _ hle238 ⟨_, ⟨rfl, rfl⟩, rfl⟩
 have L238 := hle233.trans hle238
 refine ⟨(Sl rfl), ?_⟩
 refine WT.a0 (qt (Bv (!r235)) rfl (PO.not rfl) (qt (Bv (!r235)) rfl (Mv rfl) ?_))
 rcases Bt (!r235) with hb240 | hb240
 have h := ite_t hb240 h
 refine Tf 162 rfl rfl rfl hb240 rfl (Tf 162 rfl rfl rfl hb240 rfl (Tf 162 rfl rfl rfl hb240 rfl (Tg 162 rfl rfl rfl hb240 rfl ⟨(Sk 1 rfl (St (Sf 162 rfl rfl rfl hb240 rfl) (St (Sf 162 rfl rfl rfl hb240 rfl) (Sl rfl)))), ?_⟩ ?_)))
 refine Tg 162 rfl rfl rfl hb240 rfl ⟨(Sl rfl), ?_⟩ ?_
 refine Tf 162 rfl rfl rfl hb240 rfl (qt (Bv true) rfl (Pt rfl hb240 rfl) (qt (Bv true) rfl (Mv rfl) (Tf 170 rfl rfl rfl rfl rfl (Tf 170 rfl rfl rfl rfl rfl (Tf 170 rfl rfl rfl rfl rfl (Tg 170 rfl rfl rfl rfl rfl ⟨(Sk 1 rfl (St (Sf 170 rfl rfl rfl rfl rfl) (St (Sf 170 rfl rfl rfl rfl rfl) (Sl rfl)))), ?_⟩ ?_))))))
 refine Tg 170 rfl rfl rfl rfl rfl ⟨(Sl rfl), ?_⟩ ?_
 refine Tf 170 rfl rfl rfl rfl rfl (qt (Bv true) rfl (Pt rfl rfl rfl) (qt (Bv true) rfl (Mv rfl) (Tf 178 rfl rfl rfl rfl rfl (Tf 178 rfl rfl rfl rfl rfl (Tf 178 rfl rfl rfl rfl rfl (Tg 178 rfl rfl rfl rfl rfl ⟨(Sk 1 rfl (St (Sf 178 rfl rfl rfl rfl rfl) (St (Sf 178 rfl rfl rfl rfl rfl) (Sl rfl)))), ?_⟩ ?_))))))
 refine Tg 178 rfl rfl rfl rfl rfl ⟨(Sl rfl), ?_⟩ ?_
 refine Tf 178 rfl rfl rfl rfl rfl (qt (Bv true) rfl (Pt rfl rfl rfl) (qt (Bv true) rfl (Ag rfl) (Ti ?_)))
 obtain rfl := oi h
 exact Tj ⟨L238, rfl, hs209_1, rfl⟩
 exact Tz
 exact Tz
 exact Tz
 exact Tz
 exact Tz
 exact Tz
 have h := ite_f hb240 h
 refine Tn (pt g21 15) 162 rfl rfl rfl hb240 (Fa fo58_15 hs209_1 rfl) rfl (Tn v0_15 162 rfl rfl rfl hb240 (Lb 0 pl56 rfl rfl rfl) rfl (Tn (.func (.func 112) #[] #[(pt g21 0)]) 162 rfl rfl rfl hb240 (Mv hs209_3) rfl ?_))
 obtain ⟨r241, hr242, h⟩ := bnd h
 have h0_14 := h0_14.mono hle238
 have h0_15 := h0_15.mono L238
 have h0_16 := h0_16.mono L238
 have h0_17 := h0_17.mono L238
 refine WT.altOn 162 rfl rfl rfl hb240 (EO.callV1 (first := #[]) (cap := #[(pt g21 0)]) co112 rfl (f_record_Check_1_ok (4096 : Int) a0 _ _ _ _ _ _ h0_14 h0_15 h0_16 h0_17 r241 hr242) (argsV1 rfl rfl)) rfl ?_ ?_
 rintro _ M243 _ hle244 ⟨_, ⟨rfl, rfl⟩, rfl⟩
 refine ⟨(Sk 1 rfl (St (StabA.on 162 rfl rfl rfl hb240 (Lb 0 pl56 rfl rfl rfl) rfl) (St (StabA.on 162 rfl rfl rfl hb240 (Fa fo58_15 hs209_1 rfl) rfl) (Sl rfl)))), ?_⟩
 refine WT.a1 ?_
 obtain ⟨r246, hr247, h⟩ := bnd h
 have h0_15 := h0_15.mono hle244
 refine WT.altOn 162 rfl rfl rfl hb240 (Ca co117 (f_record_row_ok a0.Isr r241 _ _ h0_15 r246 hr247) (args2 rfl rfl)) rfl ?_ ?_
 rintro _ M248 _ hle249 ⟨_, ⟨rfl, rfl⟩, rfl⟩
 have L249 := ((hle233.trans hle238).trans hle244).trans hle249
 refine ⟨(Sl rfl), ?_⟩
 refine WT.a0 (Tn (Bv (!r246)) 162 rfl rfl rfl hb240 (PO.not rfl) rfl (qt (Bv (!r246)) rfl (Pf rfl hb240 rfl) (qt (Bv (!r246)) rfl (Mv rfl) ?_)))
 rcases Bt (!r246) with hb251 | hb251
 have h := ite_t hb251 h
 refine Tf 170 rfl rfl rfl hb251 rfl (Tf 170 rfl rfl rfl hb251 rfl (Tf 170 rfl rfl rfl hb251 rfl (Tg 170 rfl rfl rfl hb251 rfl ⟨(Sk 1 rfl (St (Sf 170 rfl rfl rfl hb251 rfl) (St (Sf 170 rfl rfl rfl hb251 rfl) (Sl rfl)))), ?_⟩ ?_)))
 refine Tg 170 rfl rfl rfl hb251 rfl ⟨(Sl rfl), ?_⟩ ?_
 refine Tf 170 rfl rfl rfl hb251 rfl (qt (Bv true) rfl (Pt rfl hb251 rfl) (qt (Bv true) rfl (Mv rfl) (Tf 178 rfl rfl rfl rfl rfl (Tf 178 rfl rfl rfl rfl rfl (Tf 178 rfl rfl rfl rfl rfl (Tg 178 rfl rfl rfl rfl rfl ⟨(Sk 1 rfl (St (Sf 178 rfl rfl rfl rfl rfl) (St (Sf 178 rfl rfl rfl rfl rfl) (Sl rfl)))), ?_⟩ ?_))))))
 refine Tg 178 rfl rfl rfl rfl rfl ⟨(Sl rfl), ?_⟩ ?_
 refine Tf 178 rfl rfl rfl rfl rfl (qt (Bv true) rfl (Pt rfl rfl rfl) (qt (Bv true) rfl (Ag rfl) (Ti ?_)))
 obtain rfl := oi h
 exact Tj ⟨L249, rfl, hs209_1, rfl⟩
 exact Tz
 exact Tz
 exact Tz
 exact Tz
 have h := ite_f hb251 h
 refine Tn (pt g21 16) 170 rfl rfl rfl hb251 (Fa fo58_16 hs209_1 rfl) rfl (Tn v0_16 170 rfl rfl rfl hb251 (Lb 0 pl56 rfl rfl rfl) rfl (Tn (.func (.func 112) #[] #[(pt g21 0)]) 170 rfl rfl rfl hb251 (Mv hs209_3) rfl ?_))
 obtain ⟨r252, hr253, h⟩ := bnd h
 have h0_14 := h0_14.mono (hle244.trans hle249)
 have h0_15 := h0_15.mono hle249
 have h0_16 := h0_16.mono (hle244.trans hle249)
 have h0_17 := h0_17.mono (hle244.trans hle249)
 refine WT.altOn 170 rfl rfl rfl hb251 (EO.callV1 (first := #[]) (cap := #[(pt g21 0)]) co112 rfl (f_record_Check_1_ok (8192 : Int) a0 _ _ _ _ _ _ h0_14 h0_15 h0_16 h0_17 r252 hr253) (argsV1 rfl rfl)) rfl ?_ ?_
 rintro _ M254 _ hle255 ⟨_, ⟨rfl, rfl⟩, rfl⟩
 refine ⟨(Sk 1 rfl (St (StabA.on 170 rfl rfl rfl hb251 (Lb 0 pl56 rfl rfl rfl) rfl) (St (StabA.on 170 rfl rfl rfl hb251 (Fa fo58_16 hs209_1 rfl) rfl) (Sl rfl)))), ?_⟩
 refine WT.a1 ?_
 obtain ⟨r257, hr258, h⟩ := bnd h
 have h0_16 := h0_16.mono hle255
 refine WT.altOn 170 rfl rfl rfl hb251 (Ca co117 (f_record_row_ok a0.Add r252 _ _ h0_16 r257 hr258) (args2 rfl rfl)) rfl ?_ ?_
 rintro _ M259 _ hle260 ⟨_, ⟨rfl, rfl⟩, rfl⟩
 refine ⟨(Sl rfl), ?_⟩
 refine WT.a0 (Tn (Bv (!r257)) 170 rfl rfl rfl hb251 (PO.not rfl) rfl (qt (Bv (!r257)) rfl (Pf rfl hb251 rfl) (qt (Bv (!r257)) rfl (Mv rfl) ?_)))
 rcases Bt (!r257) with hb262 | hb262
 have h := ite_t hb262 h
 refine Tf 178 rfl rfl rfl hb262 rfl (Tf 178 rfl rfl rfl hb262 rfl (Tf 178 rfl rfl rfl hb262 rfl (Tg 178 rfl rfl rfl hb262 rfl ⟨(Sk 1 rfl (St (Sf 178 rfl rfl rfl hb262 rfl) (St (Sf 178 rfl rfl rfl hb262 rfl) (Sl rfl)))), ?_⟩ ?_)))
 refine Tg 178 rfl rfl rfl hb262 rfl ⟨(Sl rfl), ?_⟩ ?_
 refine Tf 178 rfl rfl rfl hb262 rfl (qt (Bv true) rfl (Pt rfl hb262 rfl) (qt (Bv true) rfl (Ag rfl) (Ti ?_)))
 obtain rfl := oi h
 exact Tj ⟨((L249.trans hle255).trans hle260), rfl, hs209_1, rfl⟩
 exact Tz
 exact Tz
 have h := ite_f hb262 h
 refine Tn (pt g21 17) 178 rfl rfl rfl hb262 (Fa fo58_17 hs209_1 rfl) rfl (Tn v0_17 178 rfl rfl rfl hb262 (Lb 0 pl56 rfl rfl rfl) rfl (Tn (.func (.func 112) #[] #[(pt g21 0)]) 178 rfl rfl rfl hb262 (Mv hs209_3) rfl ?_))
 obtain ⟨r263, hr264, h⟩ := bnd h
 have h0_14 := h0_14.mono (hle255.trans hle260)
 have h0_15 := h0_15.mono (hle255.trans hle260)
 have h0_16 := h0_16.mono hle260
 have h0_17 := h0_17.mono (hle255.trans hle260)
 refine WT.altOn 178 rfl rfl rfl hb262 (EO.callV1 (first := #[]) (cap := #[(pt g21 0)]) co112 rfl (f_record_Check_1_ok (8192 : Int) a0 _ _ _ _ _ _ h0_14 h0_15 h0_16 h0_17 r263 hr264) (argsV1 rfl rfl)) rfl ?_ ?_
 rintro _ M265 _ hle266 ⟨_, ⟨rfl, rfl⟩, rfl⟩
 refine ⟨(Sk 1 rfl (St (StabA.on 178 rfl rfl rfl hb262 (Lb 0 pl56 rfl rfl rfl) rfl) (St (StabA.on 178 rfl rfl rfl hb262 (Fa fo58_17 hs209_1 rfl) rfl) (Sl rfl)))), ?_⟩
 refine WT.a1 ?_
 obtain ⟨r268, hr269, h⟩ := bnd h
 have h0_17 := h0_17.mono hle266
 refine WT.altOn 178 rfl rfl rfl hb262 (Ca co117 (f_record_row_ok a0.Drop r263 _ _ h0_17 r268 hr269) (args2 rfl rfl)) rfl ?_ ?_
 rintro _ M270 _ hle271 ⟨_, ⟨rfl, rfl⟩, rfl⟩
 refine ⟨(Sl rfl), ?_⟩
 refine WT.a0 (Tn (Bv (!r268)) 178 rfl rfl rfl hb262 (PO.not rfl) rfl (qt (Bv (!r268)) rfl (Pf rfl hb262 rfl) (qt (Bv (!r268)) rfl (Ag rfl) (Ti ?_))))
 obtain rfl := oi h
 exact Tj ⟨((((L249.trans hle255).trans hle260).trans hle266).trans hle271), rfl, hs209_1, rfl⟩
 exact Tz
 exact Tz
 exact Tz
 exact Tz
 exact Tz
 exact Tz
 exact Tz
 exact Tz
 rintro ρ229 M229 H229 ⟨hle229, rfl, hs229_1, hs229_155⟩
 refine Cd (b := x228) hs229_155 (fun hb273 => ?_) (fun hb273 => ?_)
 have h := ite_t hb273 h
 refine Sr (qu (pt g21 14) (Fa fo58_14 hs229_1 rfl) (qu v0_14 (Lb 0 pl56 rfl rfl rfl) ?_))
 have h0_14 := h0_14.mono (L209.trans hle229)
 refine qu (Iv (a0.Ids.length : Int)) (PO.lenS Tryz.underlying56 rfl h0_14.len) ?_
 obtain ⟨r274, hr275, h⟩ := bnd h
 refine We (Ca co30 (f_fault_New_ok ⟨#[114, 111, 119]⟩ (a0.Ids.length : Int) (18 : Int) _ r274 hr275) (args3 rfl rfl rfl)) rfl ?_
 rintro _ M276 _ hle277 ⟨_, ⟨rfl, rfl⟩, rfl⟩
 exact WL.a0 (qa (GV r274) (Nt (Cr (Br (Tr (Dr (Rf h [] rfl (Rs rfl rfl) ((L209_1.trans hle229).trans hle277) ⟨rfl, rfl⟩)))))))
 have h := ite_f hb273 h
 exact Ck (Bn (Tc (Sr (qa (GV GErr.nil) (Nt (Cr (Dr (Rf h [] rfl (Rs rfl rfl) (L209_1.trans hle229) ⟨rfl, rfl⟩))))))))
 exact Tz
 exact Tz
 exact Tz
 exact Tz
 exact Tz
 exact Tz
 exact Tz
 exact Tz
 exact Tz
 exact Tz

noncomputable def f_fault_Wrap (a0 : ByteArray) (a1 : Int) (a2 : GErr) : Option GErr :=
  (if a2.isNil = true then (some GErr.nil) else (some (GErr.fault a0 a1 a2)))
def f_fault_Wrap_post (a0 : ByteArray) (a1 : Int) (a2 : GErr) : GErr → Value → IM → HL → Prop :=
  fun (r0 : GErr) (v : Value) (M' : IM) (H' : HL) => (GV r0) = v ∧ H' = []
theorem f_fault_Wrap_ok (a0 : ByteArray) (a1 : Int) (a2 : GErr) (M : IM) (res : GErr) (h : f_fault_Wrap a0 a1 a2 = some res) :
    Tri Tryz.prog 29 #[(Sv a0), (Iv a1), (GV a2)] M [] (f_fault_Wrap_post a0 a1 a2 res) := by
 unfold f_fault_Wrap at h
 refine Te Tryz.func29 rfl rfl ?_
 intro F ρ hρ
 refine Sr (qa (GV GErr.nil) (Nt (Cs (Sr (qM (GV a2) (hρ 2) (qu (Bv a2.isNil) (PO.errNil Tryz.underlying31 rfl) (Nt (Cd (b := a2.isNil) rfl (fun hb21 => ?_) (fun hb21 => ?_)))))))))
 have h := ite_t hb21 h
 exact Sr (qa (GV GErr.nil) (Nt (Cr (Tr (Rf h [] rfl (Rs rfl rfl) lr ⟨rfl, rfl⟩)))))
 have h := ite_f hb21 h
 exact Ck (Tc (Sr (qM (Sv a0) (hρ 0) (qM (Iv a1) (hρ 1) (qM (GV a2) (hρ 2) (qu (.agg #[(Sv a0), (Iv a1), (GV a2)]) (Bl (cl := [(Sv a0), (Iv a1), (GV a2)]) ze108 fp108 (Pc (Sv a0) rfl rfl (Pc (Iv a1) rfl rfl (Parts.cons ((congrArg Value.cells (show ev _ _ = (GV a2) from rfl)).trans (GErr.val_cells _ _ _ _)) Pz))) rfl) (qu (GV (GErr.fault a0 a1 a2)) (PO.makeInterface cc108 rfl) (qa (GV (GErr.fault a0 a1 a2)) (Nt (Cr (Rf h [] rfl (Rs rfl rfl) lr ⟨rfl, rfl⟩)))))))))))


end Go.Proofs.YtkflneabcannnaaGreatDoor.G
