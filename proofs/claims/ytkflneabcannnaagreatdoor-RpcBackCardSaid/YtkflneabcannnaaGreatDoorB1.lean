/- Go functions: what they come to, and that they do. Printed by a program of the session (gen). -/
import Derived.Test.YtkflneabcannnaaGreatDoorBF
import Derived.Test.YtkflneabcannnaaGreatDoorB0
import Derived.Test.YtkflneabcannnaaGreatDoorKConv
import Derived.Test.YtkflneabcannnaaGreatDoorKShar2
import Derived.Test.YtkflneabcannnaaGreatDoorKTight
set_option linter.unusedVariables false
set_option linter.unusedSimpArgs false
set_option maxHeartbeats 8000000
set_option maxRecDepth 100000
namespace Go.Proofs.YtkflneabcannnaaGreatDoor.G
open Go Go.KK

noncomputable def f_record_text_113 (a0 : ByteArray) (a1 : Bool) : Option Bool :=
  (if (!a1) = true then (some (decide (a0 = (⟨#[]⟩ : ByteArray)))) else ((f_record_Check_2 a0).bind fun (r22 : Bool) => (some r22)))
def f_record_text_113_post (a0 : ByteArray) (a1 : Bool) : Bool → Value → IM → HL → Prop :=
  fun (r0 : Bool) (v : Value) (M' : IM) (H' : HL) => (.bool r0) = v ∧ H' = []
theorem f_record_text_113_ok (a0 : ByteArray) (a1 : Bool) (M : IM) (res : Bool) (h : f_record_text_113 a0 a1 = some res) :
    Tri Tryz.prog 115 #[(Sv a0), (Bv a1), (.func (.func 113) #[] #[])] M [] (f_record_text_113_post a0 a1 res) := by
 unfold f_record_text_113 at h
 refine Te Tryz.func115 rfl rfl ?_
 intro F ρ hρ
 refine Sr (Pa (Bv false) rfl rfl (Nt (Cs (Sr (Pm (Bv a1) (hρ 1) rfl (Pu (Bv (!a1)) (PO.not rfl) rfl (Nt (Cd (b := !a1) rfl (fun hb21 => ?_) (fun hb21 => ?_)))))))))
 have h := ite_t hb21 h
 exact Sr (Pm (Sv a0) (hρ 0) rfl (Pu (Bv (decide (a0 = (⟨#[]⟩ : ByteArray)))) (PO.seql rfl rfl) rfl (Pa (Bv (decide (a0 = (⟨#[]⟩ : ByteArray)))) rfl rfl (Nt (Cr (Tr (Rf h [] rfl (Rs rfl rfl) lr ⟨rfl, rfl⟩)))))))
 have h := ite_f hb21 h
 refine Ck (Tc (Sr (Pm (.func (.func 113) #[] #[]) (hρ 2) rfl (Pm (Sv a0) (hρ 0) rfl ?_))))
 obtain ⟨r22, hr23, h⟩ := bnd h
 refine We (EO.callV0 (first := #[]) (cap := #[]) co113 rfl (f_record_Check_2_ok a0 _ r22 hr23) (argsV1 rfl rfl)) rfl ?_
 rintro _ M24 _ hle25 ⟨_, ⟨rfl, rfl⟩, rfl⟩
 exact WL.a0 (Pa (Bv r22) rfl rfl (Nt (Cr (Rf h [] rfl (Rs rfl rfl) hle25 ⟨rfl, rfl⟩))))

noncomputable def f_slices_Index_int_int_l0 (a0 : (List Int)) (a1 : Int) (s_ : Int) : Option (Int ⊕ (Unit ⊕ Int)) :=
  match s_ with
  | x23 =>
    (if (decide (x23 < (a0.length : Int))) = true then (grd (0 ≤ x23 ∧ x23 < a0.length) (if (decide (a1 = (rd a0 x23))) = true then (some (Sum.inr (Sum.inr x23))) else (some (Sum.inl (IntKind.i64.wrap (x23 + (1 : Int))))))) else (some (Sum.inr (Sum.inl ()))))
noncomputable def f_slices_Index_int_int (a0 : (List Int)) (a1 : Int) : Option Int :=
  ((((iter (f_slices_Index_int_int_l0 a0 a1) (0 : Int)).bind (Sum.elim (fun _ => (some (Sum.inl ()))) (fun (x24 : Int) => (((some x24)).bind fun r => some (Sum.inr r))))) : Option (Unit ⊕ Int)).bind (Sum.elim (fun _ => (some (-1 : Int))) some))
def f_slices_Index_int_int_post (a0 : (List Int)) (a1 : Int) (v0 : Value) : Int → Value → IM → HL → Prop :=
  fun (r0 : Int) (v : Value) (M' : IM) (H' : HL) => (.int .i64 r0) = v ∧ H' = []
theorem f_slices_Index_int_int_ok (a0 : (List Int)) (a1 : Int) (M : IM) (v0 : Value) (h0 : RS (Kd.int .i64) M v0 a0) (res : Int) (h : f_slices_Index_int_int a0 a1 = some res) :
    Tri Tryz.prog 148 #[v0, (Iv a1)] M [] (f_slices_Index_int_int_post a0 a1 v0 res) := by
 unfold f_slices_Index_int_int at h
 refine Te Tryz.func148 rfl rfl ?_
 intro F ρ hρ
 refine Sr (Pa (Iv 0) rfl rfl (Nt ?_))
 obtain ⟨j21, hj21, h⟩ := bnd h
 refine WC.joinE (fun (_ : Unit) ρ' M' H' => M.le M' ∧ F = H') j21 ?_ ?_
 have h321 := h
 have h := hj21
 refine Sr (Pm v0 (hρ 0) rfl (Pu (Iv (a0.length : Int)) (PO.lenS Tryz.underlying56 rfl h0.len) rfl (Pm (Iv 0) rfl rfl (Nt (Bk ?_)))))
 obtain ⟨e22, he22, hK22⟩ := bnd h
 clear h
 refine WC.loop he22 (fun (x23 : Int) ρ' M' H' => M.le M' ∧ F = H' ∧ ρ' 0 = v0 ∧ ρ' 1 = (Iv a1) ∧ ρ' 7 = (Iv (a0.length : Int)) ∧ ρ' 8 = (Iv x23)) ?_ ?_
 exact ⟨lr, rfl, (hρ 0), (hρ 1), rfl, rfl⟩
 rintro x23 o22 ρ22 M22 H22 h ⟨hle22, rfl, hs22_0, hs22_1, hs22_7, hs22_8⟩
 unfold f_slices_Index_int_int_l0 at h
 refine Sr (Pu (Bv (decide (x23 < (a0.length : Int)))) (PO.lss hs22_8 hs22_7) rfl (Nt (Cs (Cd (b := decide (x23 < (a0.length : Int))) rfl (fun hb25 => ?_) (fun hb25 => ?_)))))
 have h := ite_t hb25 h
 refine Ck (Tc (Cs (Bk (Sr (Pm (Iv x23) hs22_8 rfl (Pa (Iv x23) rfl rfl (Ns (Pm (Iv a1) hs22_1 rfl (Pm v0 hs22_0 rfl (Pm (Iv x23) rfl rfl ?_))))))))))
 obtain ⟨hg26, h⟩ := grd_i h
 have h0 := h0.mono hle22
 obtain ⟨p27, cs28, hat29, hrc30, hhas31⟩ := h0.at hg26.1 hg26.2 (by decide)
 obtain rfl := hrc30
 refine Pu (.pointer (some p27)) (PO.indexAddr (n := a0.length) Tryz.underlying56 sz3 rfl rfl hg26.1 hg26.2 hat29) rfl (Pu (Iv (rd a0 x23)) (PO.loadM pl3 rfl (IM.has0 hhas31)) rfl (Pu (Bv (decide (a1 = (rd a0 x23)))) (PO.eql rfl rfl) rfl (Nt (Cd (b := decide (a1 = (rd a0 x23))) rfl (fun hb33 => ?_) (fun hb33 => ?_)))))
 have h := ite_t hb33 h
 refine Sr (Pm (Iv x23) rfl rfl (Pa (Iv x23) rfl rfl (Nt (Cr (Br (Tr (WQ.leaveR (Sum.inr x23) (oi h).symm (fun heq22 => ?_))))))))
 subst heq22
 have h := (elimR hK22)
 refine Br (Tr ?_)
 have h := KK.early h h321
 exact Rf h [] rfl (Rs rfl rfl) hle22 ⟨rfl, rfl⟩
 have h := ite_f hb33 h
 exact Ck (Bn (Tc (Cg (Pu (Iv (IntKind.i64.wrap (x23 + 1))) (PO.add hs22_8 rfl) rfl (Pm (Iv (IntKind.i64.wrap (x23 + 1))) rfl rfl (Wz (WQ.again (IntKind.i64.wrap (x23 + 1)) (oi h).symm ⟨hle22, rfl, hs22_0, hs22_1, hs22_7, rfl⟩)))))))
 have h := ite_f hb25 h
 refine WC.exit (WQ.thenE (WQ.leaveE (Sum.inl ()) (oi h).symm (fun heq22 => ?_)))
 subst heq22
 have h := elimL hK22
 exact WQ.blockH (WQ.thenFE h ⟨hle22, rfl⟩)
 rintro _ ρ21 M21 H21 rfl ⟨hle21, rfl⟩
 have h := (Sum.elim_inl _ _ _).symm.trans h
 exact Sr (Pa (Iv (-1 : Int)) rfl rfl (Nt (Cr (Rf h [] rfl (Rs rfl rfl) hle21 ⟨rfl, rfl⟩))))

noncomputable def f_slices_Contains_int_int (a0 : (List Int)) (a1 : Int) : Option Bool :=
  ((f_slices_Index_int_int a0 a1).bind fun (r21 : Int) => (some (decide ((0 : Int) ≤ r21))))
def f_slices_Contains_int_int_post (a0 : (List Int)) (a1 : Int) (v0 : Value) : Bool → Value → IM → HL → Prop :=
  fun (r0 : Bool) (v : Value) (M' : IM) (H' : HL) => (.bool r0) = v ∧ H' = []
theorem f_slices_Contains_int_int_ok (a0 : (List Int)) (a1 : Int) (M : IM) (v0 : Value) (h0 : RS (Kd.int .i64) M v0 a0) (res : Bool) (h : f_slices_Contains_int_int a0 a1 = some res) :
    Tri Tryz.prog 146 #[v0, (Iv a1)] M [] (f_slices_Contains_int_int_post a0 a1 v0 res) := by
 unfold f_slices_Contains_int_int at h
 refine Te Tryz.func146 rfl rfl ?_
 intro F ρ hρ
 refine Sr (Pa (Bv false) rfl rfl (Ns (Pm v0 (hρ 0) rfl (Pm (Iv a1) (hρ 1) rfl ?_))))
 obtain ⟨r21, hr22, h⟩ := bnd h
 refine We (Ca co148 (f_slices_Index_int_int_ok a0 a1 _ _ h0 r21 hr22) (args2 rfl rfl)) rfl ?_
 rintro _ M23 _ hle24 ⟨_, ⟨rfl, rfl⟩, rfl⟩
 exact WL.a0 (Pu (Bv (decide ((0 : Int) ≤ r21))) (PO.geq rfl rfl) rfl (Pa (Bv (decide ((0 : Int) ≤ r21))) rfl rfl (Nt (Cr (Rf h [] rfl (Rs rfl rfl) hle24 ⟨rfl, rfl⟩)))))

noncomputable def f_record_Brokers_l0 (a0 : (List Int)) (s_ : Int) : Option (Int ⊕ (Unit ⊕ Unit)) :=
  match s_ with
  | x24 =>
    (if (decide (x24 < (a0.length : Int))) = true then (grd (0 ≤ x24 ∧ x24 < a0.length) (((if (decide ((rd a0 x24) < (1 : Int))) = true then (some true) else (if (decide ((64 : Int) < (rd a0 x24))) = true then (some true) else (grd (0 ≤ (0 : Int) ∧ (0 : Int) ≤ x24 ∧ x24 ≤ (a0.length : Int)) ((f_slices_Contains_int_int (sub a0 (0 : Int) x24) (rd a0 x24)).bind fun (r39 : Bool) => (some r39))))) : Option Bool).bind fun (x33 : Bool) => (if x33 = true then (some (Sum.inr (Sum.inr ()))) else (some (Sum.inl (IntKind.i64.wrap (x24 + (1 : Int)))))))) else (some (Sum.inr (Sum.inl ()))))
noncomputable def f_record_Brokers (a0 : (List Int)) : Option Bool :=
  (if (decide ((7 : Int) < (a0.length : Int))) = true then (some false) else ((((iter (f_record_Brokers_l0 a0) (0 : Int)).bind (Sum.elim (fun _ => (some (Sum.inl ()))) (fun _ => (((some false)).bind fun r => some (Sum.inr r))))) : Option (Unit ⊕ Bool)).bind (Sum.elim (fun _ => (some true)) some)))
def f_record_Brokers_post (a0 : (List Int)) (v0 : Value) : Bool → Value → IM → HL → Prop :=
  fun (r0 : Bool) (v : Value) (M' : IM) (H' : HL) => (.bool r0) = v ∧ H' = []
theorem f_record_Brokers_ok (a0 : (List Int)) (M : IM) (v0 : Value) (h0 : RS (Kd.int .i64) M v0 a0) (res : Bool) (h : f_record_Brokers a0 = some res) :
    Tri Tryz.prog 139 #[v0] M [] (f_record_Brokers_post a0 v0 res) := by
 unfold f_record_Brokers at h
 refine Te Tryz.func139 rfl rfl ?_
 intro F ρ hρ
 refine Sr (Pa (Bv false) rfl rfl (Nt (Cs (Sr (Pm v0 (hρ 0) rfl (Pu (Iv (a0.length : Int)) (PO.lenS Tryz.underlying56 rfl h0.len) rfl (Pu (Bv (decide ((7 : Int) < (a0.length : Int)))) (PO.gtr rfl rfl) rfl (Nt (Cd (b := decide ((7 : Int) < (a0.length : Int))) rfl (fun hb21 => ?_) (fun hb21 => ?_))))))))))
 have h := ite_t hb21 h
 exact Sr (Pa (Bv false) rfl rfl (Nt (Cr (Tr (Rf h [] rfl (Rs rfl rfl) lr ⟨rfl, rfl⟩)))))
 have h := ite_f hb21 h
 refine Ck (Tc ?_)
 obtain ⟨j22, hj22, h⟩ := bnd h
 refine WC.joinE (fun (_ : Unit) ρ' M' H' => M.le M' ∧ F = H') j22 ?_ ?_
 have h322 := h
 have h := hj22
 refine Sr (Pm v0 (hρ 0) rfl (Pu (Iv (a0.length : Int)) (PO.lenS Tryz.underlying56 rfl h0.len) rfl (Pm (Iv 0) rfl rfl (Nt (Bk ?_)))))
 obtain ⟨e23, he23, hK23⟩ := bnd h
 clear h
 refine WC.loop he23 (fun (x24 : Int) ρ' M' H' => M.le M' ∧ F = H' ∧ ρ' 0 = v0 ∧ ρ' 8 = v0 ∧ ρ' 9 = (Iv (a0.length : Int)) ∧ ρ' 10 = (Iv x24)) ?_ ?_
 exact ⟨lr, rfl, (hρ 0), rfl, rfl, rfl⟩
 rintro x24 o23 ρ23 M23 H23 h ⟨hle23, rfl, hs23_0, hs23_8, hs23_9, hs23_10⟩
 unfold f_record_Brokers_l0 at h
 refine Sr (Pu (Bv (decide (x24 < (a0.length : Int)))) (PO.lss hs23_10 hs23_9) rfl (Nt (Cs (Cd (b := decide (x24 < (a0.length : Int))) rfl (fun hb25 => ?_) (fun hb25 => ?_)))))
 have h := ite_t hb25 h
 refine Ck (Tc (Cs (Bk (Sr (Pm (Iv x24) hs23_10 rfl ?_)))))
 obtain ⟨hg26, h⟩ := grd_i h
 have h0 := h0.mono hle23
 obtain ⟨p27, cs28, hat29, hrc30, hhas31⟩ := h0.at hg26.1 hg26.2 (by decide)
 obtain rfl := hrc30
 refine Pu (.pointer (some p27)) (PO.indexAddr (n := a0.length) Tryz.underlying56 sz3 hs23_8 hs23_10 hg26.1 hg26.2 hat29) rfl (Pu (Iv (rd a0 x24)) (PO.loadM pl3 rfl (IM.has0 hhas31)) rfl (Pa (Iv x24) rfl rfl (Pa (Iv (rd a0 x24)) rfl rfl (Nt ?_))))
 obtain ⟨x33, hj34, h⟩ := bnd h
 refine Jf (fun (x33 : Bool) ρ' M' H' => M23.le M' ∧ F = H' ∧ ρ' 0 = v0 ∧ ρ' 8 = v0 ∧ ρ' 9 = (Iv (a0.length : Int)) ∧ ρ' 10 = (Iv x24) ∧ ρ' 27 = (Bv x33)) x33 ?_ ?_
 have h334 := h
 have h := hj34
 refine Cg (Pm (Iv (rd a0 x24)) rfl rfl (Pu (Bv (decide ((rd a0 x24) < 1))) (PO.lss rfl rfl) rfl (Pm (Bv (decide ((rd a0 x24) < 1))) rfl rfl ?_)))
 rcases Bt (decide ((rd a0 x24) < 1)) with hb35 | hb35
 have h := ite_t hb35 h
 iterate 2 refine Of 17 rfl rfl hb35 rfl ?_
 refine Pu (Bv true) (Pt rfl hb35 rfl) rfl (Pm (Bv true) rfl rfl ?_)
 iterate 5 refine Of 21 rfl rfl rfl rfl ?_
 refine Pu (Bv true) (Pt rfl rfl rfl) rfl (Wz ?_)
 obtain rfl := oi h
 exact Tj ⟨lr, rfl, hs23_0, hs23_8, hs23_9, hs23_10, rfl⟩
 have h := ite_f hb35 h
 refine On 17 rfl rfl hb35 (Pm (Iv (rd a0 x24)) rfl rfl (On 17 rfl rfl hb35 (Pu (Bv (decide ((64 : Int) < (rd a0 x24)))) (PO.gtr rfl rfl) rfl (Pu (Bv (decide ((64 : Int) < (rd a0 x24)))) (Pf rfl hb35 rfl) rfl (Pm (Bv (decide ((64 : Int) < (rd a0 x24)))) rfl rfl ?_)))))
 rcases Bt (decide ((64 : Int) < (rd a0 x24))) with hb36 | hb36
 have h := ite_t hb36 h
 iterate 5 refine Of 21 rfl rfl hb36 rfl ?_
 refine Pu (Bv true) (Pt rfl hb36 rfl) rfl (Wz ?_)
 obtain rfl := oi h
 exact Tj ⟨lr, rfl, hs23_0, hs23_8, hs23_9, hs23_10, rfl⟩
 have h := ite_f hb36 h
 refine On 21 rfl rfl hb36 (Pm v0 hs23_0 rfl (On 21 rfl rfl hb36 (Pm (Iv x24) rfl rfl (On 21 rfl rfl hb36 ?_))))
 obtain ⟨hg37, h⟩ := grd_i h
 have h38 := h0.sub hg37.1 hg37.2.1 hg37.2.2
 refine Pu (slV v0 1 ((0 : Int)).toNat (x24).toNat) (PO.slice (n := a0.length) (l := ((0 : Int)).toNat) (h := (x24).toNat) Tryz.underlying56 sz3 rfl h0.len h0.cap (bound0 rfl) ⟨_, _, rfl, (Int.le_trans hg37.1 hg37.2.1), rfl⟩ (Int.toNat_le_toNat hg37.2.1) (toNat_le_len hg37.2.2)) rfl (On 21 rfl rfl hb36 (Pm (Iv (rd a0 x24)) rfl rfl (On 21 rfl rfl hb36 ?_)))
 obtain ⟨r39, hr40, h⟩ := bnd h
 refine We (Ca co146 (f_slices_Contains_int_int_ok (sub a0 (0 : Int) x24) (rd a0 x24) _ _ h38 r39 hr40) (args2 rfl rfl)) rfl ?_
 rintro _ M41 _ hle42 ⟨_, ⟨rfl, rfl⟩, rfl⟩
 refine WL.a0 (Pu (Bv r39) (Pf rfl hb36 rfl) rfl (Wz ?_))
 obtain rfl := oi h
 exact Tj ⟨hle42, rfl, hs23_0, hs23_8, hs23_9, hs23_10, rfl⟩
 rintro ρ34 M34 H34 ⟨hle34, rfl, hs34_0, hs34_8, hs34_9, hs34_10, hs34_27⟩
 refine Cd (b := x33) hs34_27 (fun hb44 => ?_) (fun hb44 => ?_)
 have h := ite_t hb44 h
 refine Sr (Pa (Bv false) rfl rfl (Nt (Cr (Br (Tr (WQ.leaveR (Sum.inr ()) (oi h).symm (fun heq23 => ?_)))))))
 subst heq23
 have h := (elimR hK23)
 refine Br (Tr ?_)
 have h := KK.early h h322
 exact Rf h [] rfl (Rs rfl rfl) (hle23.trans hle34) ⟨rfl, rfl⟩
 have h := ite_f hb44 h
 exact Ck (Bn (Tc (Cg (Pu (Iv (IntKind.i64.wrap (x24 + 1))) (PO.add hs34_10 rfl) rfl (Pm (Iv (IntKind.i64.wrap (x24 + 1))) rfl rfl (Wz (WQ.again (IntKind.i64.wrap (x24 + 1)) (oi h).symm ⟨(hle23.trans hle34), rfl, hs34_0, hs34_8, hs34_9, rfl⟩)))))))
 have h := ite_f hb25 h
 refine WC.exit (WQ.thenE (WQ.leaveE (Sum.inl ()) (oi h).symm (fun heq23 => ?_)))
 subst heq23
 have h := elimL hK23
 exact WQ.blockH (WQ.thenFE h ⟨hle23, rfl⟩)
 rintro _ ρ22 M22 H22 rfl ⟨hle22, rfl⟩
 have h := (Sum.elim_inl _ _ _).symm.trans h
 exact Sr (Pa (Bv true) rfl rfl (Nt (Cr (Rf h [] rfl (Rs rfl rfl) hle22 ⟨rfl, rfl⟩))))

noncomputable def f_record_row (a0 : (List Int)) (a1 : Bool) : Option Bool :=
  (if (!a1) = true then (some (decide ((a0.length : Int) = (0 : Int)))) else ((f_record_Brokers a0).bind fun (r22 : Bool) => (some r22)))
def f_record_row_post (a0 : (List Int)) (a1 : Bool) (v0 : Value) : Bool → Value → IM → HL → Prop :=
  fun (r0 : Bool) (v : Value) (M' : IM) (H' : HL) => (.bool r0) = v ∧ H' = []
theorem f_record_row_ok (a0 : (List Int)) (a1 : Bool) (M : IM) (v0 : Value) (h0 : RS (Kd.int .i64) M v0 a0) (res : Bool) (h : f_record_row a0 a1 = some res) :
    Tri Tryz.prog 117 #[v0, (Bv a1)] M [] (f_record_row_post a0 a1 v0 res) := by
 unfold f_record_row at h
 refine Te Tryz.func117 rfl rfl ?_
 intro F ρ hρ
 refine Sr (Pa (Bv false) rfl rfl (Nt (Cs (Sr (Pm (Bv a1) (hρ 1) rfl (Pu (Bv (!a1)) (PO.not rfl) rfl (Nt (Cd (b := !a1) rfl (fun hb21 => ?_) (fun hb21 => ?_)))))))))
 have h := ite_t hb21 h
 exact Sr (Pm v0 (hρ 0) rfl (Pu (Iv (a0.length : Int)) (PO.lenS Tryz.underlying56 rfl h0.len) rfl (Pu (Bv (decide ((a0.length : Int) = (0 : Int)))) (PO.eql rfl rfl) rfl (Pa (Bv (decide ((a0.length : Int) = (0 : Int)))) rfl rfl (Nt (Cr (Tr (Rf h [] rfl (Rs rfl rfl) lr ⟨rfl, rfl⟩))))))))
 have h := ite_f hb21 h
 refine Ck (Tc (Sr (Pm v0 (hρ 0) rfl ?_)))
 obtain ⟨r22, hr23, h⟩ := bnd h
 refine We (Ca co139 (f_record_Brokers_ok a0 _ _ h0 r22 hr23) (args1 rfl)) rfl ?_
 rintro _ M24 _ hle25 ⟨_, ⟨rfl, rfl⟩, rfl⟩
 exact WL.a0 (Pa (Bv r22) rfl rfl (Nt (Cr (Rf h [] rfl (Rs rfl rfl) hle25 ⟨rfl, rfl⟩))))


end Go.Proofs.YtkflneabcannnaaGreatDoor.G
