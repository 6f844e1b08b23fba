/- Go functions: what they come to, and that they do. Printed by a program of the session (gen). -/
import Derived.Test.YtkflneabcannnaaGreatDoorCF
import Derived.Test.YtkflneabcannnaaGreatDoorKConv
import Derived.Test.YtkflneabcannnaaGreatDoorKShar2
import Derived.Test.YtkflneabcannnaaGreatDoorKTight2
set_option linter.unusedVariables false
set_option linter.unusedSimpArgs false
set_option maxHeartbeats 8000000
set_option maxRecDepth 100000
namespace Go.Proofs.YtkflneabcannnaaGreatDoor.G
open Go Go.KK

noncomputable def f_ref07_no (a0 : ByteArray) (a1 : Int) (a2 : Int) : Option T_ref06_Wrong :=
  (some (⟨(⟨a0, a1, a2⟩ : T_ref05_Wrong), (-1 : Int)⟩ : T_ref06_Wrong))
def f_ref07_no_post (a0 : ByteArray) (a1 : Int) (a2 : Int) : T_ref06_Wrong → Value → IM → HL → Prop :=
  fun (r0 : T_ref06_Wrong) (v : Value) (M' : IM) (H' : HL) => (.agg #[(.string r0.W.Op), (.int .i64 r0.W.At), (.int .i64 r0.W.Code), (.int .i64 r0.Record)]) = v ∧ H' = []
theorem f_ref07_no_ok (a0 : ByteArray) (a1 : Int) (a2 : Int) (M : IM) (res : T_ref06_Wrong) (h : f_ref07_no a0 a1 a2 = some res) :
    Tri Tryz.prog 40 #[(Sv a0), (Iv a1), (Iv a2)] M [] (f_ref07_no_post a0 a1 a2 res) := by
 unfold f_ref07_no at h
 refine Te Tryz.func40 rfl rfl ?_
 intro F ρ hρ
 refine Sr (We (Al ze42 rfl) rfl ?_)
 rintro _ _ _ - ⟨rfl, g21, rfl, rfl⟩
 refine Ns (qM (Sv a0) (hρ 0) (qM (Iv a1) (hρ 1) (qM (Iv a2) (hρ 2) (qu (.agg #[(Sv a0), (Iv a1), (Iv a2)]) (Bl (cl := [(Sv a0), (Iv a1), (Iv a2)]) ze40 fp40 (Pc (Sv a0) rfl rfl (Pc (Iv a1) rfl rfl (Pc (Iv a2) rfl rfl Pz))) rfl) (qu (.agg #[(Sv a0), (Iv a1), (Iv a2), (Iv (-1 : Int))]) (Bl (cl := [(Sv a0), (Iv a1), (Iv a2), (Iv (-1 : Int))]) ze42 fp42 (Pc (.agg #[(Sv a0), (Iv a1), (Iv a2)]) rfl rfl (Pc (Iv (-1 : Int)) rfl rfl Pz)) rfl) (We (Sg (v := (.agg #[(Sv a0), (Iv a1), (Iv a2), (Iv (-1 : Int))])) (vl := [(Sv a0), (Iv a1), (Iv a2), (Iv (-1 : Int))]) (arr' := [(Sv a0), (Iv a1), (Iv a2), (Iv (-1 : Int))]) rfl sz42 rfl rfl (onb rfl) rfl rfl rfl) rfl ?_))))))
 rintro _ _ _ - ⟨rfl, rfl⟩
 exact Nt (Cr (Rd h [] (fun _ hs => hs.drop) (resultsL1 rfl (Rc (cs := [(Sv a0), (Iv a1), (Iv a2), (Iv (-1 : Int))]) 0 ag42 sz42 rfl rfl rfl)) lr ⟨rfl, rfl⟩))

noncomputable def f_ref07_has_l0 (a1 : Int) (x21 : ByteArray) (s_ : Int) : Option (Int ⊕ (Unit ⊕ Unit)) :=
  match s_ with
  | x35 =>
    (if (decide (x35 < (x21.size : Int))) = true then (grd (0 ≤ x35 ∧ x35 < x21.size) (if (decide ((btAt x21 x35) = a1)) = true then (some (Sum.inr (Sum.inr ()))) else (some (Sum.inl (IntKind.i64.wrap (x35 + (1 : Int))))))) else (some (Sum.inr (Sum.inl ()))))
noncomputable def f_ref07_has (a0 : Int) (a1 : Int) : Option Bool :=
  (((if (decide (a0 = (1 : Int))) = true then (some (⟨#[97, 112]⟩ : ByteArray)) else (if (decide (a0 = (2 : Int))) = true then (some (⟨#[97, 103, 108]⟩ : ByteArray)) else (if (decide (a0 = (3 : Int))) = true then (some (⟨#[112]⟩ : ByteArray)) else (if (decide (a0 = (4 : Int))) = true then (some (⟨#[108, 112, 104, 99, 98]⟩ : ByteArray)) else (((if (decide (a0 = (5 : Int))) = true then (some (decide (a0 = (5 : Int)))) else (some (decide (a0 = (6 : Int))))) : Option Bool).bind fun x27 => (if x27 = true then (some (⟨#[108]⟩ : ByteArray)) else (if (decide (a0 = (7 : Int))) = true then (some (⟨#[112, 111]⟩ : ByteArray)) else (if (decide (a0 = (8 : Int))) = true then (some (⟨#[108, 112, 99, 115, 111, 100]⟩ : ByteArray)) else (some (⟨#[]⟩ : ByteArray)))))))))) : Option ByteArray).bind fun x21 => ((((iter (f_ref07_has_l0 a1 x21) (0 : Int)).bind (Sum.elim (fun _ => (some (Sum.inl ()))) (fun _ => (((some true)).bind fun r => some (Sum.inr r))))) : Option (Unit ⊕ Bool)).bind (Sum.elim (fun _ => (some false)) some)))
def f_ref07_has_post (a0 : Int) (a1 : Int) : Bool → Value → IM → HL → Prop :=
  fun (r0 : Bool) (v : Value) (M' : IM) (H' : HL) => (.bool r0) = v ∧ H' = []
theorem f_ref07_has_ok (a0 : Int) (a1 : Int) (M : IM) (res : Bool) (h : f_ref07_has a0 a1 = some res) :
    Tri Tryz.prog 41 #[(Iv a0), (Yv a1)] M [] (f_ref07_has_post a0 a1 res) := by
 unfold f_ref07_has at h
 refine Te Tryz.func41 rfl rfl ?_
 intro F ρ hρ
 refine Sr (qa (Bv false) (Ns (qa (Sv ⟨#[]⟩) (Nt ?_))))
 obtain ⟨x21, hj22, h⟩ := bnd h
 refine Jf (fun (x21 : ByteArray) ρ' M' H' => M.le M' ∧ F = H' ∧ ρ' 1 = (Yv a1) ∧ ρ' 5 = (Sv x21)) x21 ?_ ?_
 have h := hj22
 refine Sr (qM (Iv a0) (hρ 0) (Nt (Bk (Sr (qu (Bv (decide (a0 = 1))) (PO.eql rfl rfl) (qa (Bv (decide (a0 = 1))) (Nt (Cd (b := decide (a0 = 1)) rfl (fun hb23 => ?_) (fun hb23 => ?_)))))))))
 have h := ite_t hb23 h
 refine Cg (qa (Sv ⟨#[97, 112]⟩) (Wz (Bn ?_)))
 obtain rfl := oi h
 exact Tj ⟨lr, rfl, (hρ 1), rfl⟩
 have h := ite_f hb23 h
 refine Sr (qu (Bv (decide (a0 = 2))) (PO.eql rfl rfl) (qa (Bv (decide (a0 = 2))) (Nt (Cd (b := decide (a0 = 2)) rfl (fun hb24 => ?_) (fun hb24 => ?_)))))
 have h := ite_t hb24 h
 refine Cg (qa (Sv ⟨#[97, 103, 108]⟩) (Wz (Bn ?_)))
 obtain rfl := oi h
 exact Tj ⟨lr, rfl, (hρ 1), rfl⟩
 have h := ite_f hb24 h
 refine Sr (qu (Bv (decide (a0 = 3))) (PO.eql rfl rfl) (qa (Bv (decide (a0 = 3))) (Nt (Cd (b := decide (a0 = 3)) rfl (fun hb25 => ?_) (fun hb25 => ?_)))))
 have h := ite_t hb25 h
 refine Cg (qa (Sv ⟨#[112]⟩) (Wz (Bn ?_)))
 obtain rfl := oi h
 exact Tj ⟨lr, rfl, (hρ 1), rfl⟩
 have h := ite_f hb25 h
 refine Sr (qu (Bv (decide (a0 = 4))) (PO.eql rfl rfl) (qa (Bv (decide (a0 = 4))) (Nt (Cd (b := decide (a0 = 4)) rfl (fun hb26 => ?_) (fun hb26 => ?_)))))
 have h := ite_t hb26 h
 refine Cg (qa (Sv ⟨#[108, 112, 104, 99, 98]⟩) (Wz (Bn ?_)))
 obtain rfl := oi h
 exact Tj ⟨lr, rfl, (hρ 1), rfl⟩
 have h := ite_f hb26 h
 obtain ⟨x27, hj28, h⟩ := bnd h
 refine Jf (fun (x27 : Bool) ρ' M' H' => M.le M' ∧ F = H' ∧ ρ' 1 = (Yv a1) ∧ ρ' 5 = (Sv ⟨#[]⟩) ∧ ρ' 7 = (Iv a0) ∧ ρ' 16 = (Bv x27)) x27 ?_ ?_
 have h := hj28
 refine Sr (qu (Bv (decide (a0 = 5))) (PO.eql rfl rfl) (qa (Bv (decide (a0 = 5))) (Nt (Cd (b := decide (a0 = 5)) rfl (fun hb29 => ?_) (fun hb29 => ?_)))))
 have h := ite_t hb29 h
 refine Ck ?_
 obtain rfl := oi h
 exact Tj ⟨lr, rfl, (hρ 1), rfl, rfl, rfl⟩
 have h := ite_f hb29 h
 refine Cg (qu (Bv (decide (a0 = 6))) (PO.eql rfl rfl) (qa (Bv (decide (a0 = 6))) (Wz ?_)))
 obtain rfl := oi h
 exact Tj ⟨lr, rfl, (hρ 1), rfl, rfl, rfl⟩
 rintro ρ28 M28 H28 ⟨hle28, rfl, hs28_1, hs28_5, hs28_7, hs28_16⟩
 refine Cd (b := x27) hs28_16 (fun hb30 => ?_) (fun hb30 => ?_)
 have h := ite_t hb30 h
 refine Cg (qa (Sv ⟨#[108]⟩) (Wz (Bn ?_)))
 obtain rfl := oi h
 exact Tj ⟨hle28, rfl, hs28_1, rfl⟩
 have h := ite_f hb30 h
 refine Sr (qu (Bv (decide (a0 = 7))) (PO.eql hs28_7 rfl) (qa (Bv (decide (a0 = 7))) (Nt (Cd (b := decide (a0 = 7)) rfl (fun hb31 => ?_) (fun hb31 => ?_)))))
 have h := ite_t hb31 h
 refine Cg (qa (Sv ⟨#[112, 111]⟩) (Wz (Bn ?_)))
 obtain rfl := oi h
 exact Tj ⟨hle28, rfl, hs28_1, rfl⟩
 have h := ite_f hb31 h
 refine Sr (qu (Bv (decide (a0 = 8))) (PO.eql hs28_7 rfl) (qa (Bv (decide (a0 = 8))) (Nt (Cd (b := decide (a0 = 8)) rfl (fun hb32 => ?_) (fun hb32 => ?_)))))
 have h := ite_t hb32 h
 refine Cg (qa (Sv ⟨#[108, 112, 99, 115, 111, 100]⟩) (Wz (Bn ?_)))
 obtain rfl := oi h
 exact Tj ⟨hle28, rfl, hs28_1, rfl⟩
 have h := ite_f hb32 h
 refine Ck (Bn ?_)
 obtain rfl := oi h
 exact Tj ⟨hle28, rfl, hs28_1, hs28_5⟩
 rintro ρ22 M22 H22 ⟨hle22, rfl, hs22_1, hs22_5⟩
 obtain ⟨j33, hj33, h⟩ := bnd h
 refine WC.joinE (fun (_ : Unit) ρ' M' H' => M22.le M' ∧ F = H') j33 ?_ ?_
 have h333 := h
 have h := hj33
 refine Sr (qa (Iv 0) (Nt (Bk ?_)))
 obtain ⟨e34, he34, hK34⟩ := bnd h
 clear h
 refine WC.loop he34 (fun (x35 : Int) ρ' M' H' => M22.le M' ∧ F = H' ∧ ρ' 1 = (Yv a1) ∧ ρ' 5 = (Sv x21) ∧ ρ' 6 = (Iv x35)) ?_ ?_
 exact ⟨lr, rfl, hs22_1, hs22_5, rfl⟩
 rintro x35 o34 ρ34 M34 H34 h ⟨hle34, rfl, hs34_1, hs34_5, hs34_6⟩
 unfold f_ref07_has_l0 at h
 refine Cs (Sr (qM (Iv x35) hs34_6 (qM (Sv x21) hs34_5 (qu (Iv (x21.size : Int)) (PO.lenStr Tryz.underlying9 rfl) (qu (Bv (decide (x35 < (x21.size : Int)))) (PO.lss rfl rfl) (Nt (Cd (b := decide (x35 < (x21.size : Int))) rfl (fun hb36 => ?_) (fun hb36 => ?_))))))))
 have h := ite_t hb36 h
 refine Ck (Tc (Cs (Bk (Sr (qM (Sv x21) hs34_5 (qM (Iv x35) hs34_6 ?_))))))
 obtain ⟨hg37, h⟩ := grd_i h
 refine qu (Yv (btAt x21 x35)) (PO.indexStr Tryz.underlying9 rfl rfl hg37.1 (strAt hg37)) (qM (Yv a1) hs34_1 (qu (Bv (decide ((btAt x21 x35) = a1))) (PO.eql rfl rfl) (Nt (Cd (b := decide ((btAt x21 x35) = a1)) rfl (fun hb39 => ?_) (fun hb39 => ?_)))))
 have h := ite_t hb39 h
 refine Sr (qa (Bv true) (Nt (Cr (Br (Tr (WQ.leaveR (Sum.inr ()) (oi h).symm (fun heq34 => ?_)))))))
 subst heq34
 have h := (elimR hK34)
 refine Br (Tr ?_)
 have h := KK.early h h333
 exact Rf h [] rfl (Rs rfl rfl) (hle22.trans hle34) ⟨rfl, rfl⟩
 have h := ite_f hb39 h
 exact Ck (Bn (Tc (Cg (qM (Iv x35) hs34_6 (qu (Iv (IntKind.i64.wrap (x35 + 1))) (PO.add rfl rfl) (qa (Iv (IntKind.i64.wrap (x35 + 1))) (Wz (WQ.again (IntKind.i64.wrap (x35 + 1)) (oi h).symm ⟨hle34, rfl, hs34_1, hs34_5, rfl⟩))))))))
 have h := ite_f hb36 h
 refine WC.exit (WQ.thenE (WQ.leaveE (Sum.inl ()) (oi h).symm (fun heq34 => ?_)))
 subst heq34
 have h := elimL hK34
 exact WQ.blockH (WQ.thenFE h ⟨hle34, rfl⟩)
 rintro _ ρ33 M33 H33 rfl ⟨hle33, rfl⟩
 have h := (Sum.elim_inl _ _ _).symm.trans h
 exact Sr (qa (Bv false) (Nt (Cr (Rf h [] rfl (Rs rfl rfl) (hle22.trans hle33) ⟨rfl, rfl⟩))))

noncomputable def f_ref07_num (a0 : Int) (a1 : Bool) (a2 : Int) : Option Bool :=
  (if a1 = true then (((if (decide ((0 : Int) ≤ a0)) = true then (some (decide (a0 ≤ a2))) else (some false)) : Option Bool).bind fun x22 => (some x22)) else (some (decide (a0 = (0 : Int)))))
def f_ref07_num_post (a0 : Int) (a1 : Bool) (a2 : Int) : Bool → Value → IM → HL → Prop :=
  fun (r0 : Bool) (v : Value) (M' : IM) (H' : HL) => (.bool r0) = v ∧ H' = []
theorem f_ref07_num_ok (a0 : Int) (a1 : Bool) (a2 : Int) (M : IM) (res : Bool) (h : f_ref07_num a0 a1 a2 = some res) :
    Tri Tryz.prog 42 #[(Iv a0), (Bv a1), (Iv a2)] M [] (f_ref07_num_post a0 a1 a2 res) := by
 unfold f_ref07_num at h
 refine Te Tryz.func42 rfl rfl ?_
 intro F ρ hρ
 refine Sr (qa (Bv false) (Nt (Cs (Sr (qM (Bv a1) (hρ 1) (Nt (Cd (b := a1) rfl (fun hb21 => ?_) (fun hb21 => ?_))))))))
 have h := ite_t hb21 h
 obtain ⟨x22, hj23, h⟩ := bnd h
 refine Jf (fun (x22 : Bool) ρ' M' H' => M.le M' ∧ F = H' ∧ ρ' 6 = (Bv x22)) x22 ?_ ?_
 have h := hj23
 refine Cg (qM (Iv a0) (hρ 0) (qu (Bv (decide ((0 : Int) ≤ a0))) (PO.geq rfl rfl) (qm (Bv (decide ((0 : Int) ≤ a0))) ?_)))
 rcases Bt (decide ((0 : Int) ≤ a0)) with hb24 | hb24
 have h := ite_t hb24 h
 refine On 10 rfl rfl hb24 (qM (Iv a0) (hρ 0) (On 10 rfl rfl hb24 (qM (Iv a2) (hρ 2) (qo 10 hb24 (Bv (decide (a0 ≤ a2))) (PO.leq rfl rfl) (qu (Bv (decide (a0 ≤ a2))) (Pt rfl hb24 rfl) (qa (Bv (decide (a0 ≤ a2))) (Wz ?_)))))))
 obtain rfl := oi h
 exact Tj ⟨lr, rfl, rfl⟩
 have h := ite_f hb24 h
 iterate 3 refine Of 10 rfl rfl hb24 rfl ?_
 refine qu (Bv false) (Pf rfl hb24 rfl) (qa (Bv false) (Wz ?_))
 obtain rfl := oi h
 exact Tj ⟨lr, rfl, rfl⟩
 rintro ρ23 M23 H23 ⟨hle23, rfl, hs23_6⟩
 exact Cr (Tr (Rf h [] rfl (Rs rfl hs23_6) hle23 ⟨rfl, rfl⟩))
 have h := ite_f hb21 h
 exact Ck (Tc (Sr (qM (Iv a0) (hρ 0) (qu (Bv (decide (a0 = 0))) (PO.eql rfl rfl) (qa (Bv (decide (a0 = 0))) (Nt (Cr (Rf h [] rfl (Rs rfl rfl) lr ⟨rfl, rfl⟩))))))))

noncomputable def f_ref05_has_l0 (a1 : Int) (x21 : ByteArray) (s_ : Int) : Option (Int ⊕ (Unit ⊕ Unit)) :=
  match s_ with
  | x38 =>
    (if (decide (x38 < (x21.size : Int))) = true then (grd (0 ≤ x38 ∧ x38 < x21.size) (if (decide ((btAt x21 x38) = a1)) = true then (some (Sum.inr (Sum.inr ()))) else (some (Sum.inl (IntKind.i64.wrap (x38 + (1 : Int))))))) else (some (Sum.inr (Sum.inl ()))))
noncomputable def f_ref05_has (a0 : Int) (a1 : Int) : Option Bool :=
  (((if (decide (a0 = (2 : Int))) = true then (some (⟨#[98, 101, 114]⟩ : ByteArray)) else (((if (decide (a0 = (3 : Int))) = true then (some (decide (a0 = (3 : Int)))) else (if (decide (a0 = (4 : Int))) = true then (some (decide (a0 = (4 : Int)))) else (if (decide (a0 = (5 : Int))) = true then (some (decide (a0 = (5 : Int)))) else (some (decide (a0 = (6 : Int))))))) : Option Bool).bind fun x24 => (if x24 = true then (some (⟨#[98, 101]⟩ : ByteArray)) else (if (decide (a0 = (7 : Int))) = true then (some (⟨#[116, 110]⟩ : ByteArray)) else (if (decide (a0 = (8 : Int))) = true then (some (⟨#[116, 112, 108, 105, 109]⟩ : ByteArray)) else (if (decide (a0 = (9 : Int))) = true then (some (⟨#[116, 101, 112, 108, 105, 109, 120]⟩ : ByteArray)) else (if (decide (a0 = (10 : Int))) = true then (some (⟨#[116, 107, 118, 102]⟩ : ByteArray)) else (if (decide (a0 = (11 : Int))) = true then (some (⟨#[116]⟩ : ByteArray)) else (if (decide (a0 = (12 : Int))) = true then (some (⟨#[97]⟩ : ByteArray)) else (some (⟨#[]⟩ : ByteArray))))))))))) : Option ByteArray).bind fun x21 => ((((iter (f_ref05_has_l0 a1 x21) (0 : Int)).bind (Sum.elim (fun _ => (some (Sum.inl ()))) (fun _ => (((some true)).bind fun r => some (Sum.inr r))))) : Option (Unit ⊕ Bool)).bind (Sum.elim (fun _ => (some false)) some)))
def f_ref05_has_post (a0 : Int) (a1 : Int) : Bool → Value → IM → HL → Prop :=
  fun (r0 : Bool) (v : Value) (M' : IM) (H' : HL) => (.bool r0) = v ∧ H' = []
theorem f_ref05_has_ok (a0 : Int) (a1 : Int) (M : IM) (res : Bool) (h : f_ref05_has a0 a1 = some res) :
    Tri Tryz.prog 105 #[(Iv a0), (Yv a1)] M [] (f_ref05_has_post a0 a1 res) := by
 unfold f_ref05_has at h
 refine Te Tryz.func105 rfl rfl ?_
 intro F ρ hρ
 refine Sr (qa (Bv false) (Ns (qa (Sv ⟨#[]⟩) (Nt ?_))))
 obtain ⟨x21, hj22, h⟩ := bnd h
 refine Jf (fun (x21 : ByteArray) ρ' M' H' => M.le M' ∧ F = H' ∧ ρ' 1 = (Yv a1) ∧ ρ' 5 = (Sv x21)) x21 ?_ ?_
 have h := hj22
 refine Sr (qM (Iv a0) (hρ 0) (Nt (Bk (Sr (qu (Bv (decide (a0 = 2))) (PO.eql rfl rfl) (qa (Bv (decide (a0 = 2))) (Nt (Cd (b := decide (a0 = 2)) rfl (fun hb23 => ?_) (fun hb23 => ?_)))))))))
 have h := ite_t hb23 h
 refine Cg (qa (Sv ⟨#[98, 101, 114]⟩) (Wz (Bn ?_)))
 obtain rfl := oi h
 exact Tj ⟨lr, rfl, (hρ 1), rfl⟩
 have h := ite_f hb23 h
 obtain ⟨x24, hj25, h⟩ := bnd h
 refine Jf (fun (x24 : Bool) ρ' M' H' => M.le M' ∧ F = H' ∧ ρ' 1 = (Yv a1) ∧ ρ' 5 = (Sv ⟨#[]⟩) ∧ ρ' 7 = (Iv a0) ∧ ρ' 10 = (Bv x24)) x24 ?_ ?_
 have h := hj25
 refine Sr (qu (Bv (decide (a0 = 3))) (PO.eql rfl rfl) (qa (Bv (decide (a0 = 3))) (Nt (Cd (b := decide (a0 = 3)) rfl (fun hb26 => ?_) (fun hb26 => ?_)))))
 have h := ite_t hb26 h
 refine Ck ?_
 obtain rfl := oi h
 exact Tj ⟨lr, rfl, (hρ 1), rfl, rfl, rfl⟩
 have h := ite_f hb26 h
 refine Sr (qu (Bv (decide (a0 = 4))) (PO.eql rfl rfl) (qa (Bv (decide (a0 = 4))) (Nt (Cd (b := decide (a0 = 4)) rfl (fun hb27 => ?_) (fun hb27 => ?_)))))
 have h := ite_t hb27 h
 refine Ck ?_
 obtain rfl := oi h
 exact Tj ⟨lr, rfl, (hρ 1), rfl, rfl, rfl⟩
 have h := ite_f hb27 h
 refine Sr (qu (Bv (decide (a0 = 5))) (PO.eql rfl rfl) (qa (Bv (decide (a0 = 5))) (Nt (Cd (b := decide (a0 = 5)) rfl (fun hb28 => ?_) (fun hb28 => ?_)))))
 have h := ite_t hb28 h
 refine Ck ?_
 obtain rfl := oi h
 exact Tj ⟨lr, rfl, (hρ 1), rfl, rfl, rfl⟩
 have h := ite_f hb28 h
 refine Cg (qu (Bv (decide (a0 = 6))) (PO.eql rfl rfl) (qa (Bv (decide (a0 = 6))) (Wz ?_)))
 obtain rfl := oi h
 exact Tj ⟨lr, rfl, (hρ 1), rfl, rfl, rfl⟩
 rintro ρ25 M25 H25 ⟨hle25, rfl, hs25_1, hs25_5, hs25_7, hs25_10⟩
 refine Cd (b := x24) hs25_10 (fun hb29 => ?_) (fun hb29 => ?_)
 have h := ite_t hb29 h
 refine Cg (qa (Sv ⟨#[98, 101]⟩) (Wz (Bn ?_)))
 obtain rfl := oi h
 exact Tj ⟨hle25, rfl, hs25_1, rfl⟩
 have h := ite_f hb29 h
 refine Sr (qu (Bv (decide (a0 = 7))) (PO.eql hs25_7 rfl) (qa (Bv (decide (a0 = 7))) (Nt (Cd (b := decide (a0 = 7)) rfl (fun hb30 => ?_) (fun hb30 => ?_)))))
 have h := ite_t hb30 h
 refine Cg (qa (Sv ⟨#[116, 110]⟩) (Wz (Bn ?_)))
 obtain rfl := oi h
 exact Tj ⟨hle25, rfl, hs25_1, rfl⟩
 have h := ite_f hb30 h
 refine Sr (qu (Bv (decide (a0 = 8))) (PO.eql hs25_7 rfl) (qa (Bv (decide (a0 = 8))) (Nt (Cd (b := decide (a0 = 8)) rfl (fun hb31 => ?_) (fun hb31 => ?_)))))
 have h := ite_t hb31 h
 refine Cg (qa (Sv ⟨#[116, 112, 108, 105, 109]⟩) (Wz (Bn ?_)))
 obtain rfl := oi h
 exact Tj ⟨hle25, rfl, hs25_1, rfl⟩
 have h := ite_f hb31 h
 refine Sr (qu (Bv (decide (a0 = 9))) (PO.eql hs25_7 rfl) (qa (Bv (decide (a0 = 9))) (Nt (Cd (b := decide (a0 = 9)) rfl (fun hb32 => ?_) (fun hb32 => ?_)))))
 have h := ite_t hb32 h
 refine Cg (qa (Sv ⟨#[116, 101, 112, 108, 105, 109, 120]⟩) (Wz (Bn ?_)))
 obtain rfl := oi h
 exact Tj ⟨hle25, rfl, hs25_1, rfl⟩
 have h := ite_f hb32 h
 refine Sr (qu (Bv (decide (a0 = 10))) (PO.eql hs25_7 rfl) (qa (Bv (decide (a0 = 10))) (Nt (Cd (b := decide (a0 = 10)) rfl (fun hb33 => ?_) (fun hb33 => ?_)))))
 have h := ite_t hb33 h
 refine Cg (qa (Sv ⟨#[116, 107, 118, 102]⟩) (Wz (Bn ?_)))
 obtain rfl := oi h
 exact Tj ⟨hle25, rfl, hs25_1, rfl⟩
 have h := ite_f hb33 h
 refine Sr (qu (Bv (decide (a0 = 11))) (PO.eql hs25_7 rfl) (qa (Bv (decide (a0 = 11))) (Nt (Cd (b := decide (a0 = 11)) rfl (fun hb34 => ?_) (fun hb34 => ?_)))))
 have h := ite_t hb34 h
 refine Cg (qa (Sv ⟨#[116]⟩) (Wz (Bn ?_)))
 obtain rfl := oi h
 exact Tj ⟨hle25, rfl, hs25_1, rfl⟩
 have h := ite_f hb34 h
 refine Sr (qu (Bv (decide (a0 = 12))) (PO.eql hs25_7 rfl) (qa (Bv (decide (a0 = 12))) (Nt (Cd (b := decide (a0 = 12)) rfl (fun hb35 => ?_) (fun hb35 => ?_)))))
 have h := ite_t hb35 h
 refine Cg (qa (Sv ⟨#[97]⟩) (Wz (Bn ?_)))
 obtain rfl := oi h
 exact Tj ⟨hle25, rfl, hs25_1, rfl⟩
 have h := ite_f hb35 h
 refine Ck (Bn ?_)
 obtain rfl := oi h
 exact Tj ⟨hle25, rfl, hs25_1, hs25_5⟩
 rintro ρ22 M22 H22 ⟨hle22, rfl, hs22_1, hs22_5⟩
 obtain ⟨j36, hj36, h⟩ := bnd h
 refine WC.joinE (fun (_ : Unit) ρ' M' H' => M22.le M' ∧ F = H') j36 ?_ ?_
 have h336 := h
 have h := hj36
 refine Sr (qa (Iv 0) (Nt (Bk ?_)))
 obtain ⟨e37, he37, hK37⟩ := bnd h
 clear h
 refine WC.loop he37 (fun (x38 : Int) ρ' M' H' => M22.le M' ∧ F = H' ∧ ρ' 1 = (Yv a1) ∧ ρ' 5 = (Sv x21) ∧ ρ' 6 = (Iv x38)) ?_ ?_
 exact ⟨lr, rfl, hs22_1, hs22_5, rfl⟩
 rintro x38 o37 ρ37 M37 H37 h ⟨hle37, rfl, hs37_1, hs37_5, hs37_6⟩
 unfold f_ref05_has_l0 at h
 refine Cs (Sr (qM (Iv x38) hs37_6 (qM (Sv x21) hs37_5 (qu (Iv (x21.size : Int)) (PO.lenStr Tryz.underlying9 rfl) (qu (Bv (decide (x38 < (x21.size : Int)))) (PO.lss rfl rfl) (Nt (Cd (b := decide (x38 < (x21.size : Int))) rfl (fun hb39 => ?_) (fun hb39 => ?_))))))))
 have h := ite_t hb39 h
 refine Ck (Tc (Cs (Bk (Sr (qM (Sv x21) hs37_5 (qM (Iv x38) hs37_6 ?_))))))
 obtain ⟨hg40, h⟩ := grd_i h
 refine qu (Yv (btAt x21 x38)) (PO.indexStr Tryz.underlying9 rfl rfl hg40.1 (strAt hg40)) (qM (Yv a1) hs37_1 (qu (Bv (decide ((btAt x21 x38) = a1))) (PO.eql rfl rfl) (Nt (Cd (b := decide ((btAt x21 x38) = a1)) rfl (fun hb42 => ?_) (fun hb42 => ?_)))))
 have h := ite_t hb42 h
 refine Sr (qa (Bv true) (Nt (Cr (Br (Tr (WQ.leaveR (Sum.inr ()) (oi h).symm (fun heq37 => ?_)))))))
 subst heq37
 have h := (elimR hK37)
 refine Br (Tr ?_)
 have h := KK.early h h336
 exact Rf h [] rfl (Rs rfl rfl) (hle22.trans hle37) ⟨rfl, rfl⟩
 have h := ite_f hb42 h
 exact Ck (Bn (Tc (Cg (qM (Iv x38) hs37_6 (qu (Iv (IntKind.i64.wrap (x38 + 1))) (PO.add rfl rfl) (qa (Iv (IntKind.i64.wrap (x38 + 1))) (Wz (WQ.again (IntKind.i64.wrap (x38 + 1)) (oi h).symm ⟨hle37, rfl, hs37_1, hs37_5, rfl⟩))))))))
 have h := ite_f hb39 h
 refine WC.exit (WQ.thenE (WQ.leaveE (Sum.inl ()) (oi h).symm (fun heq37 => ?_)))
 subst heq37
 have h := elimL hK37
 exact WQ.blockH (WQ.thenFE h ⟨hle37, rfl⟩)
 rintro _ ρ36 M36 H36 rfl ⟨hle36, rfl⟩
 have h := (Sum.elim_inl _ _ _).symm.trans h
 exact Sr (qa (Bv false) (Nt (Cr (Rf h [] rfl (Rs rfl rfl) (hle22.trans hle36) ⟨rfl, rfl⟩))))

noncomputable def f_ref05_num (a0 : Int) (a1 : Bool) (a2 : Int) (a3 : Int) : Option Bool :=
  (if a1 = true then (((if (decide (a2 ≤ a0)) = true then (some (decide (a0 ≤ a3))) else (some false)) : Option Bool).bind fun x22 => (some x22)) else (some (decide (a0 = (0 : Int)))))
def f_ref05_num_post (a0 : Int) (a1 : Bool) (a2 : Int) (a3 : Int) : Bool → Value → IM → HL → Prop :=
  fun (r0 : Bool) (v : Value) (M' : IM) (H' : HL) => (.bool r0) = v ∧ H' = []
theorem f_ref05_num_ok (a0 : Int) (a1 : Bool) (a2 : Int) (a3 : Int) (M : IM) (res : Bool) (h : f_ref05_num a0 a1 a2 a3 = some res) :
    Tri Tryz.prog 134 #[(Iv a0), (Bv a1), (Iv a2), (Iv a3)] M [] (f_ref05_num_post a0 a1 a2 a3 res) := by
 unfold f_ref05_num at h
 refine Te Tryz.func134 rfl rfl ?_
 intro F ρ hρ
 refine Sr (qa (Bv false) (Nt (Cs (Sr (qM (Bv a1) (hρ 1) (Nt (Cd (b := a1) rfl (fun hb21 => ?_) (fun hb21 => ?_))))))))
 have h := ite_t hb21 h
 obtain ⟨x22, hj23, h⟩ := bnd h
 refine Jf (fun (x22 : Bool) ρ' M' H' => M.le M' ∧ F = H' ∧ ρ' 8 = (Bv x22)) x22 ?_ ?_
 have h := hj23
 refine Cg (qM (Iv a0) (hρ 0) (qM (Iv a2) (hρ 2) (qu (Bv (decide (a2 ≤ a0))) (PO.geq rfl rfl) (qm (Bv (decide (a2 ≤ a0))) ?_))))
 rcases Bt (decide (a2 ≤ a0)) with hb24 | hb24
 have h := ite_t hb24 h
 refine On 13 rfl rfl hb24 (qM (Iv a0) (hρ 0) (On 13 rfl rfl hb24 (qM (Iv a3) (hρ 3) (qo 13 hb24 (Bv (decide (a0 ≤ a3))) (PO.leq rfl rfl) (qu (Bv (decide (a0 ≤ a3))) (Pt rfl hb24 rfl) (qa (Bv (decide (a0 ≤ a3))) (Wz ?_)))))))
 obtain rfl := oi h
 exact Tj ⟨lr, rfl, rfl⟩
 have h := ite_f hb24 h
 iterate 3 refine Of 13 rfl rfl hb24 rfl ?_
 refine qu (Bv false) (Pf rfl hb24 rfl) (qa (Bv false) (Wz ?_))
 obtain rfl := oi h
 exact Tj ⟨lr, rfl, rfl⟩
 rintro ρ23 M23 H23 ⟨hle23, rfl, hs23_8⟩
 exact Cr (Tr (Rf h [] rfl (Rs rfl hs23_8) hle23 ⟨rfl, rfl⟩))
 have h := ite_f hb21 h
 exact Ck (Tc (Sr (qM (Iv a0) (hρ 0) (qu (Bv (decide (a0 = 0))) (PO.eql rfl rfl) (qa (Bv (decide (a0 = 0))) (Nt (Cr (Rf h [] rfl (Rs rfl rfl) lr ⟨rfl, rfl⟩))))))))

noncomputable def f_ref05_numbers (a0 : T_api_Record) : Option T_ref05_Wrong :=
  (((if (decide (a0.Kind = (10 : Int))) = true then (some (0 : Int)) else (some (1 : Int))) : Option Int).bind fun x23 => ((f_ref05_has a0.Kind (98 : Int)).bind fun r26 => ((f_ref05_num a0.Broker r26 (1 : Int) (64 : Int)).bind fun r31 => (if (!r31) = true then (some (⟨(⟨#[98, 114, 111, 107, 101, 114]⟩ : ByteArray), a0.Broker, (2 : Int)⟩ : T_ref05_Wrong)) else ((f_ref05_has a0.Kind (101 : Int)).bind fun r37 => ((f_ref05_num a0.Epoch r37 (0 : Int) (1073741824 : Int)).bind fun r42 => (if (!r42) = true then (some (⟨(⟨#[101, 112, 111, 99, 104]⟩ : ByteArray), a0.Epoch, (2 : Int)⟩ : T_ref05_Wrong)) else ((f_ref05_has a0.Kind (116 : Int)).bind fun r48 => ((f_ref05_num a0.Topic r48 x23 (1073741824 : Int)).bind fun r53 => (if (!r53) = true then (some (⟨(⟨#[116, 111, 112, 105, 99]⟩ : ByteArray), a0.Topic, (2 : Int)⟩ : T_ref05_Wrong)) else ((f_ref05_has a0.Kind (112 : Int)).bind fun r59 => ((f_ref05_num a0.Part r59 (0 : Int) (255 : Int)).bind fun r64 => (if (!r64) = true then (some (⟨(⟨#[112, 97, 114, 116]⟩ : ByteArray), a0.Part, (2 : Int)⟩ : T_ref05_Wrong)) else ((f_ref05_has a0.Kind (108 : Int)).bind fun r70 => ((f_ref05_num a0.Leader r70 (0 : Int) (64 : Int)).bind fun r75 => (if (!r75) = true then (some (⟨(⟨#[108, 101, 97, 100, 101, 114]⟩ : ByteArray), a0.Leader, (2 : Int)⟩ : T_ref05_Wrong)) else ((((f_ref05_has a0.Kind (97 : Int)).bind fun r83 => ((f_ref05_num a0.Client r83 (1 : Int) (1073741824 : Int)).bind fun r88 => (if (!r88) = true then (some true) else ((f_ref05_has a0.Kind (97 : Int)).bind fun r94 => ((f_ref05_num a0.Serial r94 (1 : Int) (1073741824 : Int)).bind fun r99 => (if (!r99) = true then (some true) else ((f_ref05_has a0.Kind (97 : Int)).bind fun r105 => ((f_ref05_num a0.Code r105 (0 : Int) (21 : Int)).bind fun r110 => (some (!r110)))))))))) : Option Bool).bind fun x81 => (if x81 = true then (some (⟨(⟨#[97, 115, 107, 101, 114]⟩ : ByteArray), a0.Client, (2 : Int)⟩ : T_ref05_Wrong)) else (some lit5_)))))))))))))))))))
def f_ref05_numbers_post (a0 : T_api_Record) (v0_14 v0_15 v0_16 v0_17 : Value) : T_ref05_Wrong → Value → IM → HL → Prop :=
  fun (r0 : T_ref05_Wrong) (v : Value) (M' : IM) (H' : HL) => (.agg #[(.string r0.Op), (.int .i64 r0.At), (.int .i64 r0.Code)]) = v ∧ H' = []
theorem f_ref05_numbers_ok (a0 : T_api_Record) (M : IM) (v0_14 v0_15 v0_16 v0_17 : Value) (h0_14 : RS (Kd.int .i64) M v0_14 a0.Ids) (h0_15 : RS (Kd.int .i64) M v0_15 a0.Isr) (h0_16 : RS (Kd.int .i64) M v0_16 a0.Add) (h0_17 : RS (Kd.int .i64) M v0_17 a0.Drop) (res : T_ref05_Wrong) (h : f_ref05_numbers a0 = some res) :
    Tri Tryz.prog 104 #[(a58_ a0 v0_14 v0_15 v0_16 v0_17)] M [] (f_ref05_numbers_post a0 v0_14 v0_15 v0_16 v0_17 res) := by
 unfold f_ref05_numbers at h
 refine Te Tryz.func104 rfl rfl ?_
 intro F ρ hρ
 refine Sr (We (EO.box (cs := (l58 a0 v0_14 v0_15 v0_16 v0_17).toArray) (congrArg Value.cells (asE (a58_ a0 v0_14 v0_15 v0_16 v0_17) (hρ 0)))) rfl ?_)
 rintro _ _ _ - ⟨rfl, g21, rfl, rfl⟩
 refine We (Al ze40 rfl) rfl ?_
 rintro _ _ _ - ⟨rfl, g22, rfl, rfl⟩
 refine Ns (qu (pt g21 0) (Fa fo58_0 rfl rfl) (qu (Iv a0.Kind) (Lb 1 pl3 rfl rfl rfl) (qa (Iv a0.Kind) (Ns (qa (Iv 1073741824) (Ns (qa (Iv 1) (Nt ?_))))))))
 obtain ⟨x23, hj24, h⟩ := bnd h
 refine Jf (fun (x23 : Int) ρ' M' H' => M.le M' ∧ [(g22, .cells #[(Sv ⟨#[]⟩), (Iv 0), (Iv 0)] 40 (0, 0))] :: [(g21, .cells (l58 a0 v0_14 v0_15 v0_16 v0_17).toArray 58 (0, 0))] :: F = H' ∧ ρ' 1 = (pt g21 0) ∧ ρ' 2 = (pt g22 0) ∧ ρ' 3 = (Iv a0.Kind) ∧ ρ' 4 = (Iv 1073741824) ∧ ρ' 5 = (Iv x23)) x23 ?_ ?_
 have h := hj24
 refine Sr (qm (Iv a0.Kind) (qu (Bv (decide (a0.Kind = 10))) (PO.eql rfl rfl) (Nt (Cd (b := decide (a0.Kind = 10)) rfl (fun hb25 => ?_) (fun hb25 => ?_)))))
 have h := ite_t hb25 h
 refine Cg (qa (Iv 0) (Wz ?_))
 obtain rfl := oi h
 exact Tj ⟨lr, rfl, rfl, rfl, rfl, rfl, rfl⟩
 have h := ite_f hb25 h
 refine Ck ?_
 obtain rfl := oi h
 exact Tj ⟨lr, rfl, rfl, rfl, rfl, rfl, rfl⟩
 rintro ρ24 M24 H24 ⟨hle24, rfl, hs24_1, hs24_2, hs24_3, hs24_4, hs24_5⟩
 refine Cs (Cs (WC.draw [0, 1, 0, 4, 15, 31] (.pure 0 (.pure 1 (.pure 2 (.alt 3 (.alt 4 (.pure 5 .done) .none) .none)))) mixed (by kernel_rfl) (qt (pt g21 1) rfl (Fa fo58_1 hs24_1 rfl) (qt (Iv a0.Broker) rfl (Lb 1 pl3 rfl rfl rfl) (qt (Iv a0.Kind) rfl (Mv hs24_3) ?_)))))
 obtain ⟨r26, hr27, h⟩ := bnd h
 refine Ta rfl (Ca co105 (f_ref05_has_ok a0.Kind (98 : Int) _ r26 hr27) (args2 rfl rfl)) rfl ?_ ?_
 rintro _ M28 _ hle29 ⟨_, ⟨rfl, rfl⟩, rfl⟩
 have L29 := hle24.trans hle29
 refine ⟨(Sk 1 rfl (Ss rfl (Lb 1 pl3 rfl rfl rfl) rfl (Ss rfl (Fa fo58_1 hs24_1 rfl) rfl trivial))), ?_⟩
 refine WT.a0 ?_
 obtain ⟨r31, hr32, h⟩ := bnd h
 refine Ta rfl (Ca co134 (f_ref05_num_ok a0.Broker r26 (1 : Int) (64 : Int) _ r31 hr32) (args4 rfl rfl rfl rfl)) rfl ?_ ?_
 rintro _ M33 _ hle34 ⟨_, ⟨rfl, rfl⟩, rfl⟩
 have L34 := L29.trans hle34
 refine ⟨(Sl rfl), ?_⟩
 refine WT.a0 (qt (Bv (!r31)) rfl (PO.not rfl) (Ti (Tc (Cd (b := !r31) rfl (fun hb36 => ?_) (fun hb36 => ?_)))))
 have h := ite_t hb36 h
 refine Sr (qu (pt g21 1) (Fa fo58_1 hs24_1 rfl) (qu (Iv a0.Broker) (Lb 1 pl3 rfl rfl rfl) (qu (.agg #[(Sv ⟨#[98, 114, 111, 107, 101, 114]⟩), (Iv a0.Broker), (Iv 2)]) (Bl (cl := [(Sv ⟨#[98, 114, 111, 107, 101, 114]⟩), (Iv a0.Broker), (Iv 2)]) ze40 fp40 (Pc (Sv ⟨#[98, 114, 111, 107, 101, 114]⟩) rfl rfl (Pc (Iv a0.Broker) rfl rfl (Pc (Iv 2) rfl rfl Pz))) rfl) (We (Sg (v := (.agg #[(Sv ⟨#[98, 114, 111, 107, 101, 114]⟩), (Iv a0.Broker), (Iv 2)])) (vl := [(Sv ⟨#[98, 114, 111, 107, 101, 114]⟩), (Iv a0.Broker), (Iv 2)]) (arr' := [(Sv ⟨#[98, 114, 111, 107, 101, 114]⟩), (Iv a0.Broker), (Iv 2)]) rfl sz40 hs24_2 rfl (onb rfl) rfl rfl rfl) rfl ?_))))
 rintro _ _ _ - ⟨rfl, rfl⟩
 exact Nt (Cr (Tr (Qa (Dr (Rd h [] (fun _ hs => hs.drop) (resultsL1 rfl (Rc (cs := [(Sv ⟨#[98, 114, 111, 107, 101, 114]⟩), (Iv a0.Broker), (Iv 2)]) 0 ag40 sz40 hs24_2 rfl rfl)) L34 ⟨rfl, rfl⟩)))))
 have h := ite_f hb36 h
 refine Ck (Tc (Cs (Cs (WC.draw [0, 1, 0, 4, 0, 31, 63] (.pure 0 (.pure 1 (.pure 2 (.pure 4 (.alt 3 (.alt 5 (.pure 6 .done) .none) .none))))) mixed (by kernel_rfl) (qt (pt g21 2) rfl (Fa fo58_2 hs24_1 rfl) (qt (Iv a0.Epoch) rfl (Lb 1 pl3 rfl rfl rfl) (qt (Iv a0.Kind) rfl (Mv hs24_3) (qt (Iv 1073741824) rfl (Mv hs24_4) ?_))))))))
 obtain ⟨r37, hr38, h⟩ := bnd h
 refine Ta rfl (Ca co105 (f_ref05_has_ok a0.Kind (101 : Int) _ r37 hr38) (args2 rfl rfl)) rfl ?_ ?_
 rintro _ M39 _ hle40 ⟨_, ⟨rfl, rfl⟩, rfl⟩
 have L40 := L34.trans hle40
 refine ⟨(Ss rfl (Mv hs24_4) rfl (Sk 1 rfl (Ss rfl (Lb 1 pl3 rfl rfl rfl) rfl (Ss rfl (Fa fo58_2 hs24_1 rfl) rfl trivial)))), ?_⟩
 refine WT.a0 ?_
 obtain ⟨r42, hr43, h⟩ := bnd h
 refine Ta rfl (Ca co134 (f_ref05_num_ok a0.Epoch r37 (0 : Int) (1073741824 : Int) _ r42 hr43) (args4 rfl rfl rfl rfl)) rfl ?_ ?_
 rintro _ M44 _ hle45 ⟨_, ⟨rfl, rfl⟩, rfl⟩
 have L45 := L40.trans hle45
 refine ⟨(Sl rfl), ?_⟩
 refine WT.a0 (qt (Bv (!r42)) rfl (PO.not rfl) (Ti (Tc (Cd (b := !r42) rfl (fun hb47 => ?_) (fun hb47 => ?_)))))
 have h := ite_t hb47 h
 refine Sr (qu (pt g21 2) (Fa fo58_2 hs24_1 rfl) (qu (Iv a0.Epoch) (Lb 1 pl3 rfl rfl rfl) (qu (.agg #[(Sv ⟨#[101, 112, 111, 99, 104]⟩), (Iv a0.Epoch), (Iv 2)]) (Bl (cl := [(Sv ⟨#[101, 112, 111, 99, 104]⟩), (Iv a0.Epoch), (Iv 2)]) ze40 fp40 (Pc (Sv ⟨#[101, 112, 111, 99, 104]⟩) rfl rfl (Pc (Iv a0.Epoch) rfl rfl (Pc (Iv 2) rfl rfl Pz))) rfl) (We (Sg (v := (.agg #[(Sv ⟨#[101, 112, 111, 99, 104]⟩), (Iv a0.Epoch), (Iv 2)])) (vl := [(Sv ⟨#[101, 112, 111, 99, 104]⟩), (Iv a0.Epoch), (Iv 2)]) (arr' := [(Sv ⟨#[101, 112, 111, 99, 104]⟩), (Iv a0.Epoch), (Iv 2)]) rfl sz40 hs24_2 rfl (onb rfl) rfl rfl rfl) rfl ?_))))
 rintro _ _ _ - ⟨rfl, rfl⟩
 exact Nt (Cr (Tr (Qa (Dr (Rd h [] (fun _ hs => hs.drop) (resultsL1 rfl (Rc (cs := [(Sv ⟨#[101, 112, 111, 99, 104]⟩), (Iv a0.Epoch), (Iv 2)]) 0 ag40 sz40 hs24_2 rfl rfl)) L45 ⟨rfl, rfl⟩)))))
 have h := ite_f hb47 h
 refine Ck (Tc (Cs (Cs (WC.draw [0, 1, 0, 4, 0, 0, 63, 127] (.pure 0 (.pure 1 (.pure 2 (.pure 4 (.pure 5 (.alt 3 (.alt 6 (.pure 7 .done) .none) .none)))))) mixed (by kernel_rfl) (qt (pt g21 3) rfl (Fa fo58_3 hs24_1 rfl) (qt (Iv a0.Topic) rfl (Lb 1 pl3 rfl rfl rfl) (qt (Iv a0.Kind) rfl (Mv hs24_3) (qt (Iv x23) rfl (Mv hs24_5) (qt (Iv 1073741824) rfl (Mv hs24_4) ?_)))))))))
 obtain ⟨r48, hr49, h⟩ := bnd h
 refine Ta rfl (Ca co105 (f_ref05_has_ok a0.Kind (116 : Int) _ r48 hr49) (args2 rfl rfl)) rfl ?_ ?_
 rintro _ M50 _ hle51 ⟨_, ⟨rfl, rfl⟩, rfl⟩
 have L51 := L45.trans hle51
 refine ⟨(Ss rfl (Mv hs24_4) rfl (Ss rfl (Mv hs24_5) rfl (Sk 1 rfl (Ss rfl (Lb 1 pl3 rfl rfl rfl) rfl (Ss rfl (Fa fo58_3 hs24_1 rfl) rfl trivial))))), ?_⟩
 refine WT.a0 ?_
 obtain ⟨r53, hr54, h⟩ := bnd h
 refine Ta rfl (Ca co134 (f_ref05_num_ok a0.Topic r48 x23 (1073741824 : Int) _ r53 hr54) (args4 rfl rfl rfl rfl)) rfl ?_ ?_
 rintro _ M55 _ hle56 ⟨_, ⟨rfl, rfl⟩, rfl⟩
 have L56 := L51.trans hle56
 refine ⟨(Sl rfl), ?_⟩
 refine WT.a0 (qt (Bv (!r53)) rfl (PO.not rfl) (Ti (Tc (Cd (b := !r53) rfl (fun hb58 => ?_) (fun hb58 => ?_)))))
 have h := ite_t hb58 h
 refine Sr (qu (pt g21 3) (Fa fo58_3 hs24_1 rfl) (qu (Iv a0.Topic) (Lb 1 pl3 rfl rfl rfl) (qu (.agg #[(Sv ⟨#[116, 111, 112, 105, 99]⟩), (Iv a0.Topic), (Iv 2)]) (Bl (cl := [(Sv ⟨#[116, 111, 112, 105, 99]⟩), (Iv a0.Topic), (Iv 2)]) ze40 fp40 (Pc (Sv ⟨#[116, 111, 112, 105, 99]⟩) rfl rfl (Pc (Iv a0.Topic) rfl rfl (Pc (Iv 2) rfl rfl Pz))) rfl) (We (Sg (v := (.agg #[(Sv ⟨#[116, 111, 112, 105, 99]⟩), (Iv a0.Topic), (Iv 2)])) (vl := [(Sv ⟨#[116, 111, 112, 105, 99]⟩), (Iv a0.Topic), (Iv 2)]) (arr' := [(Sv ⟨#[116, 111, 112, 105, 99]⟩), (Iv a0.Topic), (Iv 2)]) rfl sz40 hs24_2 rfl (onb rfl) rfl rfl rfl) rfl ?_))))
 rintro _ _ _ - ⟨rfl, rfl⟩
 exact Nt (Cr (Tr (Qa (Dr (Rd h [] (fun _ hs => hs.drop) (resultsL1 rfl (Rc (cs := [(Sv ⟨#[116, 111, 112, 105, 99]⟩), (Iv a0.Topic), (Iv 2)]) 0 ag40 sz40 hs24_2 rfl rfl)) L56 ⟨rfl, rfl⟩)))))
 have h := ite_f hb58 h
 refine Ck (Tc (Cs (Cs (WC.draw [0, 1, 0, 4, 15, 31] (.pure 0 (.pure 1 (.pure 2 (.alt 3 (.alt 4 (.pure 5 .done) .none) .none)))) mixed (by kernel_rfl) (qt (pt g21 4) rfl (Fa fo58_4 hs24_1 rfl) (qt (Iv a0.Part) rfl (Lb 1 pl3 rfl rfl rfl) (qt (Iv a0.Kind) rfl (Mv hs24_3) ?_)))))))
 obtain ⟨r59, hr60, h⟩ := bnd h
 refine Ta rfl (Ca co105 (f_ref05_has_ok a0.Kind (112 : Int) _ r59 hr60) (args2 rfl rfl)) rfl ?_ ?_
 rintro _ M61 _ hle62 ⟨_, ⟨rfl, rfl⟩, rfl⟩
 have L62 := L56.trans hle62
 refine ⟨(Sk 1 rfl (Ss rfl (Lb 1 pl3 rfl rfl rfl) rfl (Ss rfl (Fa fo58_4 hs24_1 rfl) rfl trivial))), ?_⟩
 refine WT.a0 ?_
 obtain ⟨r64, hr65, h⟩ := bnd h
 refine Ta rfl (Ca co134 (f_ref05_num_ok a0.Part r59 (0 : Int) (255 : Int) _ r64 hr65) (args4 rfl rfl rfl rfl)) rfl ?_ ?_
 rintro _ M66 _ hle67 ⟨_, ⟨rfl, rfl⟩, rfl⟩
 have L67 := L62.trans hle67
 refine ⟨(Sl rfl), ?_⟩
 refine WT.a0 (qt (Bv (!r64)) rfl (PO.not rfl) (Ti (Tc (Cd (b := !r64) rfl (fun hb69 => ?_) (fun hb69 => ?_)))))
 have h := ite_t hb69 h
 refine Sr (qu (pt g21 4) (Fa fo58_4 hs24_1 rfl) (qu (Iv a0.Part) (Lb 1 pl3 rfl rfl rfl) (qu (.agg #[(Sv ⟨#[112, 97, 114, 116]⟩), (Iv a0.Part), (Iv 2)]) (Bl (cl := [(Sv ⟨#[112, 97, 114, 116]⟩), (Iv a0.Part), (Iv 2)]) ze40 fp40 (Pc (Sv ⟨#[112, 97, 114, 116]⟩) rfl rfl (Pc (Iv a0.Part) rfl rfl (Pc (Iv 2) rfl rfl Pz))) rfl) (We (Sg (v := (.agg #[(Sv ⟨#[112, 97, 114, 116]⟩), (Iv a0.Part), (Iv 2)])) (vl := [(Sv ⟨#[112, 97, 114, 116]⟩), (Iv a0.Part), (Iv 2)]) (arr' := [(Sv ⟨#[112, 97, 114, 116]⟩), (Iv a0.Part), (Iv 2)]) rfl sz40 hs24_2 rfl (onb rfl) rfl rfl rfl) rfl ?_))))
 rintro _ _ _ - ⟨rfl, rfl⟩
 exact Nt (Cr (Tr (Qa (Dr (Rd h [] (fun _ hs => hs.drop) (resultsL1 rfl (Rc (cs := [(Sv ⟨#[112, 97, 114, 116]⟩), (Iv a0.Part), (Iv 2)]) 0 ag40 sz40 hs24_2 rfl rfl)) L67 ⟨rfl, rfl⟩)))))
 have h := ite_f hb69 h
 refine Ck (Tc (Cs (Cs (WC.draw [0, 1, 0, 4, 15, 31] (.pure 0 (.pure 1 (.pure 2 (.alt 3 (.alt 4 (.pure 5 .done) .none) .none)))) mixed (by kernel_rfl) (qt (pt g21 5) rfl (Fa fo58_5 hs24_1 rfl) (qt (Iv a0.Leader) rfl (Lb 1 pl3 rfl rfl rfl) (qt (Iv a0.Kind) rfl (Mv hs24_3) ?_)))))))
 obtain ⟨r70, hr71, h⟩ := bnd h
 refine Ta rfl (Ca co105 (f_ref05_has_ok a0.Kind (108 : Int) _ r70 hr71) (args2 rfl rfl)) rfl ?_ ?_
 rintro _ M72 _ hle73 ⟨_, ⟨rfl, rfl⟩, rfl⟩
 have L73 := L67.trans hle73
 refine ⟨(Sk 1 rfl (Ss rfl (Lb 1 pl3 rfl rfl rfl) rfl (Ss rfl (Fa fo58_5 hs24_1 rfl) rfl trivial))), ?_⟩
 refine WT.a0 ?_
 obtain ⟨r75, hr76, h⟩ := bnd h
 refine Ta rfl (Ca co134 (f_ref05_num_ok a0.Leader r70 (0 : Int) (64 : Int) _ r75 hr76) (args4 rfl rfl rfl rfl)) rfl ?_ ?_
 rintro _ M77 _ hle78 ⟨_, ⟨rfl, rfl⟩, rfl⟩
 have L78 := L73.trans hle78
 refine ⟨(Sl rfl), ?_⟩
 refine WT.a0 (qt (Bv (!r75)) rfl (PO.not rfl) (Ti (Tc (Cd (b := !r75) rfl (fun hb80 => ?_) (fun hb80 => ?_)))))
 have h := ite_t hb80 h
 refine Sr (qu (pt g21 5) (Fa fo58_5 hs24_1 rfl) (qu (Iv a0.Leader) (Lb 1 pl3 rfl rfl rfl) (qu (.agg #[(Sv ⟨#[108, 101, 97, 100, 101, 114]⟩), (Iv a0.Leader), (Iv 2)]) (Bl (cl := [(Sv ⟨#[108, 101, 97, 100, 101, 114]⟩), (Iv a0.Leader), (Iv 2)]) ze40 fp40 (Pc (Sv ⟨#[108, 101, 97, 100, 101, 114]⟩) rfl rfl (Pc (Iv a0.Leader) rfl rfl (Pc (Iv 2) rfl rfl Pz))) rfl) (We (Sg (v := (.agg #[(Sv ⟨#[108, 101, 97, 100, 101, 114]⟩), (Iv a0.Leader), (Iv 2)])) (vl := [(Sv ⟨#[108, 101, 97, 100, 101, 114]⟩), (Iv a0.Leader), (Iv 2)]) (arr' := [(Sv ⟨#[108, 101, 97, 100, 101, 114]⟩), (Iv a0.Leader), (Iv 2)]) rfl sz40 hs24_2 rfl (onb rfl) rfl rfl rfl) rfl ?_))))
 rintro _ _ _ - ⟨rfl, rfl⟩
 exact Nt (Cr (Tr (Qa (Dr (Rd h [] (fun _ hs => hs.drop) (resultsL1 rfl (Rc (cs := [(Sv ⟨#[108, 101, 97, 100, 101, 114]⟩), (Iv a0.Leader), (Iv 2)]) 0 ag40 sz40 hs24_2 rfl rfl)) L78 ⟨rfl, rfl⟩)))))
 have h := ite_f hb80 h
 refine Ck (Tc (Cs ?_))
 obtain ⟨x81, hj82, h⟩ := bnd h
 refine Jf (fun (x81 : Bool) ρ' M' H' => M77.le M' ∧ [(g22, .cells #[(Sv ⟨#[]⟩), (Iv 0), (Iv 0)] 40 (0, 0))] :: [(g21, .cells (l58 a0 v0_14 v0_15 v0_16 v0_17).toArray 58 (0, 0))] :: F = H' ∧ ρ' 1 = (pt g21 0) ∧ ρ' 2 = (pt g22 0) ∧ ρ' 81 = (Bv x81)) x81 ?_ ?_
 have h := hj82
 refine WC.draw [0, 1, 0, 4, 0, 31, 63, 127, 255, 511, 255, 1279, 255, 8191, 16383, 32767, 65535, 131071, 262143, 131071, 655359, 2097151, 4194303, 8388607] (.pure 0 (.pure 1 (.pure 2 (.pure 4 (.alt 3 (.alt 5 (.pure 6 (.pure 7 (.pure 8 (.pure 9 (.pure 10 (.pure 12 (.alt 11 (.alt 13 (.pure 14 (.pure 15 (.pure 16 (.pure 17 (.pure 18 (.pure 19 (.alt 20 (.alt 21 (.pure 22 (.pure 23 .done)) .none) .none))))))) .none) .none))))))) .none) .none))))) mixed (by kernel_rfl) (qt (pt g21 6) rfl (Fa fo58_6 hs24_1 rfl) (qt (Iv a0.Client) rfl (Lb 1 pl3 rfl rfl rfl) (qt (Iv a0.Kind) rfl (Mv hs24_3) (qt (Iv 1073741824) rfl (Mv hs24_4) ?_))))
 obtain ⟨r83, hr84, h⟩ := bnd h
 refine Ta rfl (Ca co105 (f_ref05_has_ok a0.Kind (97 : Int) _ r83 hr84) (args2 rfl rfl)) rfl ?_ ?_
 rintro _ M85 _ hle86 ⟨_, ⟨rfl, rfl⟩, rfl⟩
 refine ⟨(Ss rfl (Mv hs24_4) rfl (Sk 1 rfl (Ss rfl (Lb 1 pl3 rfl rfl rfl) rfl (Ss rfl (Fa fo58_6 hs24_1 rfl) rfl trivial)))), ?_⟩
 refine WT.a0 ?_
 obtain ⟨r88, hr89, h⟩ := bnd h
 refine Ta rfl (Ca co134 (f_ref05_num_ok a0.Client r83 (1 : Int) (1073741824 : Int) _ r88 hr89) (args4 rfl rfl rfl rfl)) rfl ?_ ?_
 rintro _ M90 _ hle91 ⟨_, ⟨rfl, rfl⟩, rfl⟩
 refine ⟨(Sl rfl), ?_⟩
 refine WT.a0 (qt (Bv (!r88)) rfl (PO.not rfl) (qt (Bv (!r88)) rfl (Mv rfl) ?_))
 rcases Bt (!r88) with hb93 | hb93
 have h := ite_t hb93 h
 refine Tf 65 rfl rfl rfl hb93 rfl (Tf 65 rfl rfl rfl hb93 rfl (Tf 65 rfl rfl rfl hb93 rfl (Tf 65 rfl rfl rfl hb93 rfl (Tg 65 rfl rfl rfl hb93 rfl ⟨(St (Sf 65 rfl rfl rfl hb93 rfl) (Sk 1 rfl (St (Sf 65 rfl rfl rfl hb93 rfl) (St (Sf 65 rfl rfl rfl hb93 rfl) (Sl rfl))))), ?_⟩ ?_))))
 refine Tg 65 rfl rfl rfl hb93 rfl ⟨(Sl rfl), ?_⟩ ?_
 refine Tf 65 rfl rfl rfl hb93 rfl (qt (Bv true) rfl (Pt rfl hb93 rfl) (qt (Bv true) rfl (Mv rfl) (Tf 74 rfl rfl rfl rfl rfl (Tf 74 rfl rfl rfl rfl rfl (Tf 74 rfl rfl rfl rfl rfl (Tg 74 rfl rfl rfl rfl rfl ⟨(Sk 1 rfl (St (Sf 74 rfl rfl rfl rfl rfl) (St (Sf 74 rfl rfl rfl rfl rfl) (Sl rfl)))), ?_⟩ ?_))))))
 refine Tg 74 rfl rfl rfl rfl rfl ⟨(Sl rfl), ?_⟩ ?_
 refine Tf 74 rfl rfl rfl rfl rfl (qt (Bv true) rfl (Pt rfl rfl rfl) (Ti ?_))
 obtain rfl := oi h
 exact Tj ⟨(hle86.trans hle91), rfl, hs24_1, hs24_2, rfl⟩
 exact Tz
 exact Tz
 exact Tz
 exact Tz
 have h := ite_f hb93 h
 refine Tn (pt g21 7) 65 rfl rfl rfl hb93 (Fa fo58_7 hs24_1 rfl) rfl (Tn (Iv a0.Serial) 65 rfl rfl rfl hb93 (Lb 1 pl3 rfl rfl rfl) rfl (Tn (Iv a0.Kind) 65 rfl rfl rfl hb93 (Mv hs24_3) rfl (Tn (Iv 1073741824) 65 rfl rfl rfl hb93 (Mv hs24_4) rfl ?_)))
 obtain ⟨r94, hr95, h⟩ := bnd h
 refine WT.altOn 65 rfl rfl rfl hb93 (Ca co105 (f_ref05_has_ok a0.Kind (97 : Int) _ r94 hr95) (args2 rfl rfl)) rfl ?_ ?_
 rintro _ M96 _ hle97 ⟨_, ⟨rfl, rfl⟩, rfl⟩
 refine ⟨(St (StabA.on 65 rfl rfl rfl hb93 (Mv hs24_4) rfl) (Sk 1 rfl (St (StabA.on 65 rfl rfl rfl hb93 (Lb 1 pl3 rfl rfl rfl) rfl) (St (StabA.on 65 rfl rfl rfl hb93 (Fa fo58_7 hs24_1 rfl) rfl) (Sl rfl))))), ?_⟩
 refine WT.a0 ?_
 obtain ⟨r99, hr100, h⟩ := bnd h
 refine WT.altOn 65 rfl rfl rfl hb93 (Ca co134 (f_ref05_num_ok a0.Serial r94 (1 : Int) (1073741824 : Int) _ r99 hr100) (args4 rfl rfl rfl rfl)) rfl ?_ ?_
 rintro _ M101 _ hle102 ⟨_, ⟨rfl, rfl⟩, rfl⟩
 refine ⟨(Sl rfl), ?_⟩
 refine WT.a0 (Tn (Bv (!r99)) 65 rfl rfl rfl hb93 (PO.not rfl) rfl (qt (Bv (!r99)) rfl (Pf rfl hb93 rfl) (qt (Bv (!r99)) rfl (Mv rfl) ?_)))
 rcases Bt (!r99) with hb104 | hb104
 have h := ite_t hb104 h
 refine Tf 74 rfl rfl rfl hb104 rfl (Tf 74 rfl rfl rfl hb104 rfl (Tf 74 rfl rfl rfl hb104 rfl (Tg 74 rfl rfl rfl hb104 rfl ⟨(Sk 1 rfl (St (Sf 74 rfl rfl rfl hb104 rfl) (St (Sf 74 rfl rfl rfl hb104 rfl) (Sl rfl)))), ?_⟩ ?_)))
 refine Tg 74 rfl rfl rfl hb104 rfl ⟨(Sl rfl), ?_⟩ ?_
 refine Tf 74 rfl rfl rfl hb104 rfl (qt (Bv true) rfl (Pt rfl hb104 rfl) (Ti ?_))
 obtain rfl := oi h
 exact Tj ⟨(((hle86.trans hle91).trans hle97).trans hle102), rfl, hs24_1, hs24_2, rfl⟩
 exact Tz
 exact Tz
 have h := ite_f hb104 h
 refine Tn (pt g21 8) 74 rfl rfl rfl hb104 (Fa fo58_8 hs24_1 rfl) rfl (Tn (Iv a0.Code) 74 rfl rfl rfl hb104 (Lb 1 pl3 rfl rfl rfl) rfl (Tn (Iv a0.Kind) 74 rfl rfl rfl hb104 (Mv hs24_3) rfl ?_))
 obtain ⟨r105, hr106, h⟩ := bnd h
 refine WT.altOn 74 rfl rfl rfl hb104 (Ca co105 (f_ref05_has_ok a0.Kind (97 : Int) _ r105 hr106) (args2 rfl rfl)) rfl ?_ ?_
 rintro _ M107 _ hle108 ⟨_, ⟨rfl, rfl⟩, rfl⟩
 refine ⟨(Sk 1 rfl (St (StabA.on 74 rfl rfl rfl hb104 (Lb 1 pl3 rfl rfl rfl) rfl) (St (StabA.on 74 rfl rfl rfl hb104 (Fa fo58_8 hs24_1 rfl) rfl) (Sl rfl)))), ?_⟩
 refine WT.a0 ?_
 obtain ⟨r110, hr111, h⟩ := bnd h
 refine WT.altOn 74 rfl rfl rfl hb104 (Ca co134 (f_ref05_num_ok a0.Code r105 (0 : Int) (21 : Int) _ r110 hr111) (args4 rfl rfl rfl rfl)) rfl ?_ ?_
 rintro _ M112 _ hle113 ⟨_, ⟨rfl, rfl⟩, rfl⟩
 refine ⟨(Sl rfl), ?_⟩
 refine WT.a0 (Tn (Bv (!r110)) 74 rfl rfl rfl hb104 (PO.not rfl) rfl (qt (Bv (!r110)) rfl (Pf rfl hb104 rfl) (Ti ?_)))
 obtain rfl := oi h
 exact Tj ⟨(((((hle86.trans hle91).trans hle97).trans hle102).trans hle108).trans hle113), rfl, hs24_1, hs24_2, rfl⟩
 exact Tz
 exact Tz
 exact Tz
 exact Tz
 exact Tz
 exact Tz
 rintro ρ82 M82 H82 ⟨hle82, rfl, hs82_1, hs82_2, hs82_81⟩
 refine Cd (b := x81) hs82_81 (fun hb115 => ?_) (fun hb115 => ?_)
 have h := ite_t hb115 h
 refine Sr (qu (pt g21 6) (Fa fo58_6 hs82_1 rfl) (qu (Iv a0.Client) (Lb 1 pl3 rfl rfl rfl) (qu (.agg #[(Sv ⟨#[97, 115, 107, 101, 114]⟩), (Iv a0.Client), (Iv 2)]) (Bl (cl := [(Sv ⟨#[97, 115, 107, 101, 114]⟩), (Iv a0.Client), (Iv 2)]) ze40 fp40 (Pc (Sv ⟨#[97, 115, 107, 101, 114]⟩) rfl rfl (Pc (Iv a0.Client) rfl rfl (Pc (Iv 2) rfl rfl Pz))) rfl) (We (Sg (v := (.agg #[(Sv ⟨#[97, 115, 107, 101, 114]⟩), (Iv a0.Client), (Iv 2)])) (vl := [(Sv ⟨#[97, 115, 107, 101, 114]⟩), (Iv a0.Client), (Iv 2)]) (arr' := [(Sv ⟨#[97, 115, 107, 101, 114]⟩), (Iv a0.Client), (Iv 2)]) rfl sz40 hs82_2 rfl (onb rfl) rfl rfl rfl) rfl ?_))))
 rintro _ _ _ - ⟨rfl, rfl⟩
 exact Nt (Cr (Tr (Qa (Dr (Rd h [] (fun _ hs => hs.drop) (resultsL1 rfl (Rc (cs := [(Sv ⟨#[97, 115, 107, 101, 114]⟩), (Iv a0.Client), (Iv 2)]) 0 ag40 sz40 hs82_2 rfl rfl)) (L78.trans hle82) ⟨rfl, rfl⟩)))))
 have h := ite_f hb115 h
 refine Ck (Tc (Sr (qu (.agg #[(Sv ⟨#[]⟩), (Iv 0), (Iv 0)]) (Bl (cl := [(Sv ⟨#[]⟩), (Iv 0), (Iv 0)]) ze40 fp40 Pz rfl) (We (Sg (v := (.agg #[(Sv ⟨#[]⟩), (Iv 0), (Iv 0)])) (vl := [(Sv ⟨#[]⟩), (Iv 0), (Iv 0)]) (arr' := [(Sv ⟨#[]⟩), (Iv 0), (Iv 0)]) rfl sz40 hs82_2 rfl (onb rfl) rfl rfl rfl) rfl ?_))))
 rintro _ _ _ - ⟨rfl, rfl⟩
 exact Nt (Cr (Qa (Dr (Rd h [] (fun _ hs => hs.drop) (resultsL1 rfl (Rc (cs := [(Sv ⟨#[]⟩), (Iv 0), (Iv 0)]) 0 ag40 sz40 hs82_2 rfl rfl)) (L78.trans hle82) ⟨rfl, rfl⟩))))
 exact Tz
 exact Tz
 exact Tz
 exact Tz
 exact Tz
 exact Tz
 exact Tz
 exact Tz
 exact Tz
 exact Tz

noncomputable def f_ref05_Name_l0 (a0 : ByteArray) (s_ : Int) : Option (Int ⊕ (Unit ⊕ Unit)) :=
  match s_ with
  | x29 =>
    (if (decide (x29 < (a0.size : Int))) = true then (grd (0 ≤ x29 ∧ x29 < a0.size) (((if (decide ((97 : Int) ≤ (btAt a0 x29))) = true then (if (decide ((btAt a0 x29) ≤ (122 : Int))) = true then (some true) else (if (decide ((48 : Int) ≤ (btAt a0 x29))) = true then (if (decide ((btAt a0 x29) ≤ (57 : Int))) = true then (some true) else (if (decide ((btAt a0 x29) = (46 : Int))) = true then (some true) else (some (decide ((btAt a0 x29) = (45 : Int)))))) else (if (decide ((btAt a0 x29) = (46 : Int))) = true then (some true) else (some (decide ((btAt a0 x29) = (45 : Int))))))) else (if (decide ((48 : Int) ≤ (btAt a0 x29))) = true then (if (decide ((btAt a0 x29) ≤ (57 : Int))) = true then (some true) else (if (decide ((btAt a0 x29) = (46 : Int))) = true then (some true) else (some (decide ((btAt a0 x29) = (45 : Int)))))) else (if (decide ((btAt a0 x29) = (46 : Int))) = true then (some true) else (some (decide ((btAt a0 x29) = (45 : Int))))))) : Option Bool).bind fun x33 => (if (!x33) = true then (some (Sum.inr (Sum.inr ()))) else (some (Sum.inl (IntKind.i64.wrap (x29 + (1 : Int)))))))) else (some (Sum.inr (Sum.inl ()))))
noncomputable def f_ref05_Name (a0 : ByteArray) : Option Bool :=
  (((if (decide ((a0.size : Int) < (1 : Int))) = true then (some true) else (if (decide ((40 : Int) < (a0.size : Int))) = true then (some true) else (if (decide (a0 = (⟨#[46]⟩ : ByteArray))) = true then (some true) else (some (decide (a0 = (⟨#[46, 46]⟩ : ByteArray))))))) : Option Bool).bind fun x21 => (if x21 = true then (some false) else ((((iter (f_ref05_Name_l0 a0) (0 : Int)).bind (Sum.elim (fun _ => (some (Sum.inl ()))) (fun _ => (((some false)).bind fun r => some (Sum.inr r))))) : Option (Unit ⊕ Bool)).bind (Sum.elim (fun _ => (some true)) some))))
def f_ref05_Name_post (a0 : ByteArray) : Bool → Value → IM → HL → Prop :=
  fun (r0 : Bool) (v : Value) (M' : IM) (H' : HL) => (.bool r0) = v ∧ H' = []
theorem f_ref05_Name_ok (a0 : ByteArray) (M : IM) (res : Bool) (h : f_ref05_Name a0 = some res) :
    Tri Tryz.prog 135 #[(Sv a0)] M [] (f_ref05_Name_post a0 res) := by
 unfold f_ref05_Name at h
 refine Te Tryz.func135 rfl rfl ?_
 intro F ρ hρ
 refine Sr (qa (Bv false) (Nt (Cs ?_)))
 obtain ⟨x21, hj22, h⟩ := bnd h
 refine Jf (fun (x21 : Bool) ρ' M' H' => M.le M' ∧ F = H' ∧ ρ' 0 = (Sv a0) ∧ ρ' 21 = (Bv x21)) x21 ?_ ?_
 have h := hj22
 refine Cg (qM (Sv a0) (hρ 0) (qu (Iv (a0.size : Int)) (PO.lenStr Tryz.underlying9 rfl) (qu (Bv (decide ((a0.size : Int) < (1 : Int)))) (PO.lss rfl rfl) (qm (Bv (decide ((a0.size : Int) < (1 : Int)))) ?_))))
 rcases Bt (decide ((a0.size : Int) < (1 : Int))) with hb23 | hb23
 have h := ite_t hb23 h
 iterate 3 refine Of 9 rfl rfl hb23 rfl ?_
 refine qu (Bv true) (Pt rfl hb23 rfl) (qm (Bv true) ?_)
 iterate 2 refine Of 14 rfl rfl rfl rfl ?_
 refine qu (Bv true) (Pt rfl rfl rfl) (qm (Bv true) ?_)
 iterate 2 refine Of 18 rfl rfl rfl rfl ?_
 refine qu (Bv true) (Pt rfl rfl rfl) (Wz ?_)
 obtain rfl := oi h
 exact Tj ⟨lr, rfl, (hρ 0), rfl⟩
 have h := ite_f hb23 h
 refine On 9 rfl rfl hb23 (qM (Sv a0) (hρ 0) (qo 9 hb23 (Iv (a0.size : Int)) (PO.lenStr Tryz.underlying9 rfl) (qo 9 hb23 (Bv (decide ((40 : Int) < (a0.size : Int)))) (PO.gtr rfl rfl) (qu (Bv (decide ((40 : Int) < (a0.size : Int)))) (Pf rfl hb23 rfl) (qm (Bv (decide ((40 : Int) < (a0.size : Int)))) ?_)))))
 rcases Bt (decide ((40 : Int) < (a0.size : Int))) with hb24 | hb24
 have h := ite_t hb24 h
 iterate 2 refine Of 14 rfl rfl hb24 rfl ?_
 refine qu (Bv true) (Pt rfl hb24 rfl) (qm (Bv true) ?_)
 iterate 2 refine Of 18 rfl rfl rfl rfl ?_
 refine qu (Bv true) (Pt rfl rfl rfl) (Wz ?_)
 obtain rfl := oi h
 exact Tj ⟨lr, rfl, (hρ 0), rfl⟩
 have h := ite_f hb24 h
 refine On 14 rfl rfl hb24 (qM (Sv a0) (hρ 0) (qo 14 hb24 (Bv (decide (a0 = (⟨#[46]⟩ : ByteArray)))) (PO.seql rfl rfl) (qu (Bv (decide (a0 = (⟨#[46]⟩ : ByteArray)))) (Pf rfl hb24 rfl) (qm (Bv (decide (a0 = (⟨#[46]⟩ : ByteArray)))) ?_))))
 rcases Bt (decide (a0 = (⟨#[46]⟩ : ByteArray))) with hb25 | hb25
 have h := ite_t hb25 h
 iterate 2 refine Of 18 rfl rfl hb25 rfl ?_
 refine qu (Bv true) (Pt rfl hb25 rfl) (Wz ?_)
 obtain rfl := oi h
 exact Tj ⟨lr, rfl, (hρ 0), rfl⟩
 have h := ite_f hb25 h
 refine On 18 rfl rfl hb25 (qM (Sv a0) (hρ 0) (qo 18 hb25 (Bv (decide (a0 = (⟨#[46, 46]⟩ : ByteArray)))) (PO.seql rfl rfl) (qu (Bv (decide (a0 = (⟨#[46, 46]⟩ : ByteArray)))) (Pf rfl hb25 rfl) (Wz ?_))))
 obtain rfl := oi h
 exact Tj ⟨lr, rfl, (hρ 0), rfl⟩
 rintro ρ22 M22 H22 ⟨hle22, rfl, hs22_0, hs22_21⟩
 refine Cd (b := x21) hs22_21 (fun hb26 => ?_) (fun hb26 => ?_)
 have h := ite_t hb26 h
 exact Sr (qa (Bv false) (Nt (Cr (Tr (Rf h [] rfl (Rs rfl rfl) hle22 ⟨rfl, rfl⟩)))))
 have h := ite_f hb26 h
 refine Ck (Tc ?_)
 obtain ⟨j27, hj27, h⟩ := bnd h
 refine WC.joinE (fun (_ : Unit) ρ' M' H' => M22.le M' ∧ F = H') j27 ?_ ?_
 have h327 := h
 have h := hj27
 refine Sr (qa (Iv 0) (Nt (Bk ?_)))
 obtain ⟨e28, he28, hK28⟩ := bnd h
 clear h
 refine WC.loop he28 (fun (x29 : Int) ρ' M' H' => M22.le M' ∧ F = H' ∧ ρ' 0 = (Sv a0) ∧ ρ' 3 = (Iv x29)) ?_ ?_
 exact ⟨lr, rfl, hs22_0, rfl⟩
 rintro x29 o28 ρ28 M28 H28 h ⟨hle28, rfl, hs28_0, hs28_3⟩
 unfold f_ref05_Name_l0 at h
 refine Cs (Sr (qM (Iv x29) hs28_3 (qM (Sv a0) hs28_0 (qu (Iv (a0.size : Int)) (PO.lenStr Tryz.underlying9 rfl) (qu (Bv (decide (x29 < (a0.size : Int)))) (PO.lss rfl rfl) (Nt (Cd (b := decide (x29 < (a0.size : Int))) rfl (fun hb30 => ?_) (fun hb30 => ?_))))))))
 have h := ite_t hb30 h
 refine Ck (Tc (Cs (Bk (Sr (qM (Sv a0) hs28_0 (qM (Iv x29) hs28_3 ?_))))))
 obtain ⟨hg31, h⟩ := grd_i h
 refine qu (Yv (btAt a0 x29)) (PO.indexStr Tryz.underlying9 rfl rfl hg31.1 (strAt hg31)) (qa (Yv (btAt a0 x29)) (Nt ?_))
 obtain ⟨x33, hj34, h⟩ := bnd h
 refine Jf (fun (x33 : Bool) ρ' M' H' => M28.le M' ∧ F = H' ∧ ρ' 0 = (Sv a0) ∧ ρ' 3 = (Iv x29) ∧ ρ' 5 = (Bv x33)) x33 ?_ ?_
 have h := hj34
 refine Cg (qm (Yv (btAt a0 x29)) (qu (Bv (decide ((97 : Int) ≤ (btAt a0 x29)))) (PO.geq rfl rfl) (qm (Bv (decide ((97 : Int) ≤ (btAt a0 x29)))) ?_)))
 rcases Bt (decide ((97 : Int) ≤ (btAt a0 x29))) with hb35 | hb35
 have h := ite_t hb35 h
 refine On 33 rfl rfl hb35 (qm (Yv (btAt a0 x29)) (qo 33 hb35 (Bv (decide ((btAt a0 x29) ≤ 122))) (PO.leq rfl rfl) (qu (Bv (decide ((btAt a0 x29) ≤ 122))) (Pt rfl hb35 rfl) (qm (Bv (decide ((btAt a0 x29) ≤ 122))) ?_))))
 rcases Bt (decide ((btAt a0 x29) ≤ 122)) with hb36 | hb36
 have h := ite_t hb36 h
 iterate 3 refine Of 37 rfl rfl hb36 rfl ?_
 refine WL.offU 40 rfl rfl rfl (WL.offU 40 rfl rfl rfl (Of 37 rfl rfl hb36 rfl (qu (Bv true) (Pt rfl hb36 rfl) (qm (Bv true) ?_))))
 iterate 2 refine Of 45 rfl rfl rfl rfl ?_
 refine qu (Bv true) (Pt rfl rfl rfl) (qm (Bv true) ?_)
 iterate 2 refine Of 49 rfl rfl rfl rfl ?_
 refine qu (Bv true) (Pt rfl rfl rfl) (qa (Bv true) (Wz ?_))
 obtain rfl := oi h
 exact Tj ⟨lr, rfl, hs28_0, hs28_3, rfl⟩
 have h := ite_f hb36 h
 refine On 37 rfl rfl hb36 (qm (Yv (btAt a0 x29)) (qo 37 hb36 (Bv (decide ((48 : Int) ≤ (btAt a0 x29)))) (PO.geq rfl rfl) (On 37 rfl rfl hb36 (qm (Bv (decide ((48 : Int) ≤ (btAt a0 x29)))) ?_))))
 rcases Bt (decide ((48 : Int) ≤ (btAt a0 x29))) with hb37 | hb37
 have h := ite_t hb37 h
 refine On 40 rfl rfl hb37 (qm (Yv (btAt a0 x29)) (qo 40 hb37 (Bv (decide ((btAt a0 x29) ≤ 57))) (PO.leq rfl rfl) (qo 37 hb36 (Bv (decide ((btAt a0 x29) ≤ 57))) (Pt rfl hb37 rfl) (qu (Bv (decide ((btAt a0 x29) ≤ 57))) (Pf rfl hb36 rfl) (qm (Bv (decide ((btAt a0 x29) ≤ 57))) ?_)))))
 rcases Bt (decide ((btAt a0 x29) ≤ 57)) with hb38 | hb38
 have h := ite_t hb38 h
 iterate 2 refine Of 45 rfl rfl hb38 rfl ?_
 refine qu (Bv true) (Pt rfl hb38 rfl) (qm (Bv true) ?_)
 iterate 2 refine Of 49 rfl rfl rfl rfl ?_
 refine qu (Bv true) (Pt rfl rfl rfl) (qa (Bv true) (Wz ?_))
 obtain rfl := oi h
 exact Tj ⟨lr, rfl, hs28_0, hs28_3, rfl⟩
 have h := ite_f hb38 h
 refine On 45 rfl rfl hb38 (qm (Yv (btAt a0 x29)) (qo 45 hb38 (Bv (decide ((btAt a0 x29) = 46))) (PO.eql rfl rfl) (qu (Bv (decide ((btAt a0 x29) = 46))) (Pf rfl hb38 rfl) (qm (Bv (decide ((btAt a0 x29) = 46))) ?_))))
 rcases Bt (decide ((btAt a0 x29) = 46)) with hb39 | hb39
 have h := ite_t hb39 h
 iterate 2 refine Of 49 rfl rfl hb39 rfl ?_
 refine qu (Bv true) (Pt rfl hb39 rfl) (qa (Bv true) (Wz ?_))
 obtain rfl := oi h
 exact Tj ⟨lr, rfl, hs28_0, hs28_3, rfl⟩
 have h := ite_f hb39 h
 refine On 49 rfl rfl hb39 (qm (Yv (btAt a0 x29)) (qo 49 hb39 (Bv (decide ((btAt a0 x29) = 45))) (PO.eql rfl rfl) (qu (Bv (decide ((btAt a0 x29) = 45))) (Pf rfl hb39 rfl) (qa (Bv (decide ((btAt a0 x29) = 45))) (Wz ?_)))))
 obtain rfl := oi h
 exact Tj ⟨lr, rfl, hs28_0, hs28_3, rfl⟩
 have h := ite_f hb37 h
 iterate 2 refine Of 40 rfl rfl hb37 rfl ?_
 refine qo 37 hb36 (Bv false) (Pf rfl hb37 rfl) (qu (Bv false) (Pf rfl hb36 rfl) (qm (Bv false) (On 45 rfl rfl rfl (qm (Yv (btAt a0 x29)) (qo 45 rfl (Bv (decide ((btAt a0 x29) = 46))) (PO.eql rfl rfl) (qu (Bv (decide ((btAt a0 x29) = 46))) (Pf rfl rfl rfl) (qm (Bv (decide ((btAt a0 x29) = 46))) ?_)))))))
 rcases Bt (decide ((btAt a0 x29) = 46)) with hb40 | hb40
 have h := ite_t hb40 h
 iterate 2 refine Of 49 rfl rfl hb40 rfl ?_
 refine qu (Bv true) (Pt rfl hb40 rfl) (qa (Bv true) (Wz ?_))
 obtain rfl := oi h
 exact Tj ⟨lr, rfl, hs28_0, hs28_3, rfl⟩
 have h := ite_f hb40 h
 refine On 49 rfl rfl hb40 (qm (Yv (btAt a0 x29)) (qo 49 hb40 (Bv (decide ((btAt a0 x29) = 45))) (PO.eql rfl rfl) (qu (Bv (decide ((btAt a0 x29) = 45))) (Pf rfl hb40 rfl) (qa (Bv (decide ((btAt a0 x29) = 45))) (Wz ?_)))))
 obtain rfl := oi h
 exact Tj ⟨lr, rfl, hs28_0, hs28_3, rfl⟩
 have h := ite_f hb35 h
 iterate 2 refine Of 33 rfl rfl hb35 rfl ?_
 refine qu (Bv false) (Pf rfl hb35 rfl) (qm (Bv false) (On 37 rfl rfl rfl (qm (Yv (btAt a0 x29)) (qo 37 rfl (Bv (decide ((48 : Int) ≤ (btAt a0 x29)))) (PO.geq rfl rfl) (On 37 rfl rfl rfl (qm (Bv (decide ((48 : Int) ≤ (btAt a0 x29)))) ?_))))))
 rcases Bt (decide ((48 : Int) ≤ (btAt a0 x29))) with hb41 | hb41
 have h := ite_t hb41 h
 refine On 40 rfl rfl hb41 (qm (Yv (btAt a0 x29)) (qo 40 hb41 (Bv (decide ((btAt a0 x29) ≤ 57))) (PO.leq rfl rfl) (qo 37 rfl (Bv (decide ((btAt a0 x29) ≤ 57))) (Pt rfl hb41 rfl) (qu (Bv (decide ((btAt a0 x29) ≤ 57))) (Pf rfl rfl rfl) (qm (Bv (decide ((btAt a0 x29) ≤ 57))) ?_)))))
 rcases Bt (decide ((btAt a0 x29) ≤ 57)) with hb42 | hb42
 have h := ite_t hb42 h
 iterate 2 refine Of 45 rfl rfl hb42 rfl ?_
 refine qu (Bv true) (Pt rfl hb42 rfl) (qm (Bv true) ?_)
 iterate 2 refine Of 49 rfl rfl rfl rfl ?_
 refine qu (Bv true) (Pt rfl rfl rfl) (qa (Bv true) (Wz ?_))
 obtain rfl := oi h
 exact Tj ⟨lr, rfl, hs28_0, hs28_3, rfl⟩
 have h := ite_f hb42 h
 refine On 45 rfl rfl hb42 (qm (Yv (btAt a0 x29)) (qo 45 hb42 (Bv (decide ((btAt a0 x29) = 46))) (PO.eql rfl rfl) (qu (Bv (decide ((btAt a0 x29) = 46))) (Pf rfl hb42 rfl) (qm (Bv (decide ((btAt a0 x29) = 46))) ?_))))
 rcases Bt (decide ((btAt a0 x29) = 46)) with hb43 | hb43
 have h := ite_t hb43 h
 iterate 2 refine Of 49 rfl rfl hb43 rfl ?_
 refine qu (Bv true) (Pt rfl hb43 rfl) (qa (Bv true) (Wz ?_))
 obtain rfl := oi h
 exact Tj ⟨lr, rfl, hs28_0, hs28_3, rfl⟩
 have h := ite_f hb43 h
 refine On 49 rfl rfl hb43 (qm (Yv (btAt a0 x29)) (qo 49 hb43 (Bv (decide ((btAt a0 x29) = 45))) (PO.eql rfl rfl) (qu (Bv (decide ((btAt a0 x29) = 45))) (Pf rfl hb43 rfl) (qa (Bv (decide ((btAt a0 x29) = 45))) (Wz ?_)))))
 obtain rfl := oi h
 exact Tj ⟨lr, rfl, hs28_0, hs28_3, rfl⟩
 have h := ite_f hb41 h
 iterate 2 refine Of 40 rfl rfl hb41 rfl ?_
 refine qo 37 rfl (Bv false) (Pf rfl hb41 rfl) (qu (Bv false) (Pf rfl rfl rfl) (qm (Bv false) (On 45 rfl rfl rfl (qm (Yv (btAt a0 x29)) (qo 45 rfl (Bv (decide ((btAt a0 x29) = 46))) (PO.eql rfl rfl) (qu (Bv (decide ((btAt a0 x29) = 46))) (Pf rfl rfl rfl) (qm (Bv (decide ((btAt a0 x29) = 46))) ?_)))))))
 rcases Bt (decide ((btAt a0 x29) = 46)) with hb44 | hb44
 have h := ite_t hb44 h
 iterate 2 refine Of 49 rfl rfl hb44 rfl ?_
 refine qu (Bv true) (Pt rfl hb44 rfl) (qa (Bv true) (Wz ?_))
 obtain rfl := oi h
 exact Tj ⟨lr, rfl, hs28_0, hs28_3, rfl⟩
 have h := ite_f hb44 h
 refine On 49 rfl rfl hb44 (qm (Yv (btAt a0 x29)) (qo 49 hb44 (Bv (decide ((btAt a0 x29) = 45))) (PO.eql rfl rfl) (qu (Bv (decide ((btAt a0 x29) = 45))) (Pf rfl hb44 rfl) (qa (Bv (decide ((btAt a0 x29) = 45))) (Wz ?_)))))
 obtain rfl := oi h
 exact Tj ⟨lr, rfl, hs28_0, hs28_3, rfl⟩
 rintro ρ34 M34 H34 ⟨hle34, rfl, hs34_0, hs34_3, hs34_5⟩
 refine Sr (qM (Bv x33) hs34_5 (qu (Bv (!x33)) (PO.not rfl) (Nt (Cd (b := !x33) rfl (fun hb45 => ?_) (fun hb45 => ?_)))))
 have h := ite_t hb45 h
 refine Sr (qa (Bv false) (Nt (Cr (Br (Tr (WQ.leaveR (Sum.inr ()) (oi h).symm (fun heq28 => ?_)))))))
 subst heq28
 have h := (elimR hK28)
 refine Br (Tr ?_)
 have h := KK.early h h327
 exact Rf h [] rfl (Rs rfl rfl) ((hle22.trans hle28).trans hle34) ⟨rfl, rfl⟩
 have h := ite_f hb45 h
 exact Ck (Bn (Tc (Cg (qM (Iv x29) hs34_3 (qu (Iv (IntKind.i64.wrap (x29 + 1))) (PO.add rfl rfl) (qa (Iv (IntKind.i64.wrap (x29 + 1))) (Wz (WQ.again (IntKind.i64.wrap (x29 + 1)) (oi h).symm ⟨(hle28.trans hle34), rfl, hs34_0, rfl⟩))))))))
 have h := ite_f hb30 h
 refine WC.exit (WQ.thenE (WQ.leaveE (Sum.inl ()) (oi h).symm (fun heq28 => ?_)))
 subst heq28
 have h := elimL hK28
 exact WQ.blockH (WQ.thenFE h ⟨hle28, rfl⟩)
 rintro _ ρ27 M27 H27 rfl ⟨hle27, rfl⟩
 have h := (Sum.elim_inl _ _ _).symm.trans h
 exact Sr (qa (Bv true) (Nt (Cr (Rf h [] rfl (Rs rfl rfl) (hle22.trans hle27) ⟨rfl, rfl⟩))))

noncomputable def f_ref05_name (a0 : ByteArray) (a1 : Bool) : Option Bool :=
  (if a1 = true then ((f_ref05_Name a0).bind fun r22 => (some r22)) else (some (decide (a0 = (⟨#[]⟩ : ByteArray)))))
def f_ref05_name_post (a0 : ByteArray) (a1 : Bool) : Bool → Value → IM → HL → Prop :=
  fun (r0 : Bool) (v : Value) (M' : IM) (H' : HL) => (.bool r0) = v ∧ H' = []
theorem f_ref05_name_ok (a0 : ByteArray) (a1 : Bool) (M : IM) (res : Bool) (h : f_ref05_name a0 a1 = some res) :
    Tri Tryz.prog 106 #[(Sv a0), (Bv a1)] M [] (f_ref05_name_post a0 a1 res) := by
 unfold f_ref05_name at h
 refine Te Tryz.func106 rfl rfl ?_
 intro F ρ hρ
 refine Sr (qa (Bv false) (Nt (Cs (Sr (qM (Bv a1) (hρ 1) (Nt (Cd (b := a1) rfl (fun hb21 => ?_) (fun hb21 => ?_))))))))
 have h := ite_t hb21 h
 refine Sr (qM (Sv a0) (hρ 0) ?_)
 obtain ⟨r22, hr23, h⟩ := bnd h
 refine We (Ca co135 (f_ref05_Name_ok a0 _ r22 hr23) (args1 rfl)) rfl ?_
 rintro _ M24 _ hle25 ⟨_, ⟨rfl, rfl⟩, rfl⟩
 exact WL.a0 (qa (Bv r22) (Nt (Cr (Tr (Rf h [] rfl (Rs rfl rfl) hle25 ⟨rfl, rfl⟩)))))
 have h := ite_f hb21 h
 exact Ck (Tc (Sr (qM (Sv a0) (hρ 0) (qu (Bv (decide (a0 = (⟨#[]⟩ : ByteArray)))) (PO.seql rfl rfl) (qa (Bv (decide (a0 = (⟨#[]⟩ : ByteArray)))) (Nt (Cr (Rf h [] rfl (Rs rfl rfl) lr ⟨rfl, rfl⟩))))))))


end Go.Proofs.YtkflneabcannnaaGreatDoor.G
