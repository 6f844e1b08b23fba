/- Go functions: what they come to, and that they do. Printed by a program of the session (gen). -/
import Derived.Test.YtkflneabcannnaaGreatDoorBF
import Derived.Test.YtkflneabcannnaaGreatDoorB10
import Derived.Test.YtkflneabcannnaaGreatDoorKConv
import Derived.Test.YtkflneabcannnaaGreatDoorKShar2
import Derived.Test.YtkflneabcannnaaGreatDoorKTight
set_option linter.unusedVariables false
set_option linter.unusedSimpArgs false
set_option maxHeartbeats 8000000
set_option maxRecDepth 100000
namespace Go.Proofs.YtkflneabcannnaaGreatDoor.G
open Go Go.KK

noncomputable def f_errors_is_l0 (a1 : Int) (s_ : GErr) : Option (GErr ⊕ Bool) :=
  match s_ with
  | x22 =>
    (match x22 with | .nil => (some (Sum.inr false)) | .code n24 => (if (decide (n24 = a1)) = true then (some (Sum.inr true)) else (some (Sum.inr false))) | .fault o25 a26 e27 => ((f_api_Fault_Unwrap (⟨o25, a26, e27⟩ : T_api_Fault)).bind fun (r30 : GErr) => (if r30.isNil = true then (some (Sum.inr false)) else (some (Sum.inl r30)))) | .other b28 => (some (Sum.inr false)))
noncomputable def f_errors_is (a0 : GErr) (a1 : Int) : Option Bool :=
  ((iter (f_errors_is_l0 a1) a0).bind (fun (x23 : Bool) => (some x23)))
def f_errors_is_post (a0 : GErr) (a1 : Int) : Bool → Value → IM → HL → Prop :=
  fun (r0 : Bool) (v : Value) (M' : IM) (H' : HL) => (.bool r0) = v ∧ H' = []
theorem f_errors_is_ok (a0 : GErr) (a1 : Int) (M : IM) (res : Bool) (h : f_errors_is a0 a1 = some res) :
    Tri Tryz.prog 92 #[(GV a0), (GV (GErr.code a1)), (Bv true)] M [] (f_errors_is_post a0 a1 res) := by
 unfold f_errors_is at h
 refine Te Tryz.func92 rfl rfl ?_
 intro F ρ hρ
 refine Sr (Pa (Bv false) rfl rfl (Nt (Bk ?_)))
 obtain ⟨e21, he21, hK21⟩ := bnd h
 clear h
 refine WC.loop he21 (fun (x22 : GErr) ρ' M' H' => M.le M' ∧ F = H' ∧ ρ' 0 = (GV x22) ∧ ρ' 1 = (GV (GErr.code a1)) ∧ ρ' 2 = (Bv true)) ?_ ?_
 exact ⟨lr, rfl, (hρ 0), (hρ 1), (hρ 2)⟩
 rintro x22 o21 ρ21 M21 H21 h ⟨hle21, rfl, hs21_0, hs21_1, hs21_2⟩
 unfold f_errors_is_l0 at h
 refine Bk (Cs (Sr (Pm (Bv true) hs21_2 rfl (Pm (Bv true) rfl rfl (On 15 rfl rfl rfl (Pm (GV x22) hs21_0 rfl (On 15 rfl rfl rfl (Pm (GV (GErr.code a1)) hs21_1 rfl (On 15 rfl rfl rfl ?_)))))))))
 rcases x22 with _ | n24 | ⟨o25, a26, e27⟩ | b28
 refine Pu (Bv false) (PO.nilIfaceNe Tryz.underlying31 (show ev _ _ = .nilIface from rfl) (show ev _ _ = (.iface 38 (Iv a1)) from rfl)) rfl (Pu (Bv false) (Pt rfl rfl rfl) rfl (Nt (WC.condF (b := false) rfl rfl (Ck (Tc (Cs (Sr (Pm (GV GErr.nil) hs21_0 rfl (Pu (.tuple #[.nilIface, (Bv false)]) (PO.asserts (show ev _ _ = .nilIface from rfl) (run_assert_nil zo186 Tryz.underlying186)) rfl (Pm (.tuple #[.nilIface, (Bv false)]) rfl rfl (Pu .nilIface (Xt rfl rfl) rfl ?_)))))))))))
 refine Pu (Bv false) (Xt rfl rfl) rfl (Pa .nilIface rfl rfl (Pa (Bv false) rfl rfl (Ns (Pm (Bv false) rfl rfl (Pm (Bv false) rfl rfl ?_)))))
 iterate 3 refine Of 26 rfl rfl rfl rfl ?_
 refine Pu (Bv false) (Pf rfl rfl rfl) rfl (Nt (WC.condF (b := false) rfl rfl (Ck (Tc (Sr (Pm (GV GErr.nil) hs21_0 rfl (Nt (Bk (Sr (Pu (.tuple #[.nilIface, (Bv false)]) (PO.asserts (show ev _ _ = .nilIface from rfl) (run_assert_nil zo189 Tryz.underlying189)) rfl (Pu (Bv false) (Xt rfl rfl) rfl ?_)))))))))))
 refine Pu .nilIface (Xt rfl rfl) rfl (Nt (WC.condF (b := false) rfl rfl (Sr (Pu (.tuple #[.nilIface, (Bv false)]) (PO.asserts (show ev _ _ = .nilIface from rfl) (run_assert_nil zo190 Tryz.underlying190)) rfl (Pu (Bv false) (Xt rfl rfl) rfl (Pu .nilIface (Xt rfl rfl) rfl (Nt (WC.condF (b := false) rfl rfl (Sr (Pa (GV GErr.nil) rfl rfl (Ns ?_)))))))))))
 refine Pa (Bv false) rfl rfl (Nt (Cr (Br (Br (WQ.leaveR false (oi h).symm (fun heq21 => ?_))))))
 subst heq21
 have h := hK21
 exact Br (Rf h [] rfl (Rs rfl rfl) hle21 ⟨rfl, rfl⟩)
 refine Pu (Bv (decide (n24 = a1))) (PO.ifaceInt Tryz.underlying31 Tryz.underlying38 cm38 (show ev _ _ = (.iface 38 (Iv n24)) from rfl) (show ev _ _ = (.iface 38 (Iv a1)) from rfl)) rfl (Pu (Bv (decide (n24 = a1))) (Pt rfl rfl rfl) rfl (Nt (Cd (b := decide (n24 = a1)) rfl (fun hb29 => ?_) (fun hb29 => ?_))))
 have h := ite_t hb29 h
 refine Sr (Pa (Bv true) rfl rfl (Nt (Cr (Tr (Br (WQ.leaveR true (oi h).symm (fun heq21 => ?_)))))))
 subst heq21
 have h := hK21
 exact Br (Rf h [] rfl (Rs rfl rfl) hle21 ⟨rfl, rfl⟩)
 have h := ite_f hb29 h
 refine Ck (Tc (Cs (Sr (Pm (GV (GErr.code n24)) hs21_0 rfl (Pu (.tuple #[.nilIface, (Bv false)]) (PO.asserts (show ev _ _ = (.iface 38 (Iv n24)) from rfl) (la38_186 _ _)) rfl (Pm (.tuple #[.nilIface, (Bv false)]) rfl rfl (Pu .nilIface (Xt rfl rfl) rfl (Pu (Bv false) (Xt rfl rfl) rfl (Pa .nilIface rfl rfl (Pa (Bv false) rfl rfl (Ns ?_)))))))))))
 refine Pm (Bv false) rfl rfl (Pm (Bv false) rfl rfl ?_)
 iterate 3 refine Of 26 rfl rfl rfl rfl ?_
 refine Pu (Bv false) (Pf rfl rfl rfl) rfl (Nt (WC.condF (b := false) rfl rfl (Ck (Tc (Sr (Pm (GV (GErr.code n24)) hs21_0 rfl (Nt (Bk (Sr (Pu (.tuple #[.nilIface, (Bv false)]) (PO.asserts (show ev _ _ = (.iface 38 (Iv n24)) from rfl) (la38_189 _ _)) rfl (Pu (Bv false) (Xt rfl rfl) rfl ?_)))))))))))
 refine Pu .nilIface (Xt rfl rfl) rfl (Nt (WC.condF (b := false) rfl rfl (Sr (Pu (.tuple #[.nilIface, (Bv false)]) (PO.asserts (show ev _ _ = (.iface 38 (Iv n24)) from rfl) (la38_190 _ _)) rfl (Pu (Bv false) (Xt rfl rfl) rfl (Pu .nilIface (Xt rfl rfl) rfl (Nt (WC.condF (b := false) rfl rfl (Sr (Pa (GV (GErr.code n24)) rfl rfl (Ns ?_)))))))))))
 refine Pa (Bv false) rfl rfl (Nt (Cr (Br (Br (WQ.leaveR false (oi h).symm (fun heq21 => ?_))))))
 subst heq21
 have h := hK21
 exact Br (Rf h [] rfl (Rs rfl rfl) hle21 ⟨rfl, rfl⟩)
 refine Pu (Bv false) (PO.ifaceNe Tryz.underlying31 (show ev _ _ = (.iface 108 (.agg #[.string o25, .int .i64 a26, GV e27])) from rfl) (show ev _ _ = (.iface 38 (Iv a1)) from rfl) rfl) rfl (Pu (Bv false) (Pt rfl rfl rfl) rfl (Nt (WC.condF (b := false) rfl rfl (Ck (Tc (Cs (Sr (Pm (GV (GErr.fault o25 a26 e27)) hs21_0 rfl (Pu (.tuple #[.nilIface, (Bv false)]) (PO.asserts (show ev _ _ = (.iface 108 (.agg #[.string o25, .int .i64 a26, GV e27])) from rfl) (la108_186 _ _)) rfl (Pm (.tuple #[.nilIface, (Bv false)]) rfl rfl (Pu .nilIface (Xt rfl rfl) rfl ?_)))))))))))
 refine Pu (Bv false) (Xt rfl rfl) rfl (Pa .nilIface rfl rfl (Pa (Bv false) rfl rfl (Ns (Pm (Bv false) rfl rfl (Pm (Bv false) rfl rfl ?_)))))
 iterate 3 refine Of 26 rfl rfl rfl rfl ?_
 refine Pu (Bv false) (Pf rfl rfl rfl) rfl (Nt (WC.condF (b := false) rfl rfl (Ck (Tc (Sr (Pm (GV (GErr.fault o25 a26 e27)) hs21_0 rfl (Nt (Bk (Sr (Pu (.tuple #[(GV (GErr.fault o25 a26 e27)), (Bv true)]) (PO.asserts (show ev _ _ = (.iface 108 (.agg #[.string o25, .int .i64 a26, GV e27])) from rfl) (ha108_189 _ _)) rfl (Pu (Bv true) (Xt rfl rfl) rfl ?_)))))))))))
 refine Pu (GV (GErr.fault o25 a26 e27)) (Xt rfl rfl) rfl (Nt (WC.condT (b := true) rfl rfl (Sr (Pa (GV (GErr.fault o25 a26 e27)) rfl rfl (Ns (Pm (GV (GErr.fault o25 a26 e27)) rfl rfl ?_))))))
 obtain ⟨r30, hr31, h⟩ := bnd h
 refine We (EO.invT (show ev _ _ = (.iface 108 (.agg #[.string o25, .int .i64 a26, GV e27])) from rfl) (me108_Unwrap _) co168 inv0 (f_api_Fault_Unwrap_ok (⟨o25, a26, e27⟩ : T_api_Fault) _ r30 hr31)) rfl ?_
 rintro _ M32 _ hle33 ⟨_, ⟨rfl, rfl⟩, rfl⟩
 refine WL.a0 (Pa (GV r30) rfl rfl (Ns (Pm (GV r30) rfl rfl (Pu (Bv r30.isNil) (PO.errNil Tryz.underlying31 rfl) rfl (Nt (Cd (b := r30.isNil) rfl (fun hb35 => ?_) (fun hb35 => ?_)))))))
 have h := ite_t hb35 h
 refine Sr (Pa (Bv false) rfl rfl (Nt (Cr (Br (Br (WQ.leaveR false (oi h).symm (fun heq21 => ?_)))))))
 subst heq21
 have h := hK21
 exact Br (Rf h [] rfl (Rs rfl rfl) (hle21.trans hle33) ⟨rfl, rfl⟩)
 have h := ite_f hb35 h
 exact Ck (Bn (Bn (WQ.again r30 (oi h).symm ⟨(hle21.trans hle33), rfl, rfl, hs21_1, hs21_2⟩)))
 refine Pu (Bv false) (PO.ifaceNe Tryz.underlying31 (show ev _ _ = (.iface 0 (.pointer (some b28))) from rfl) (show ev _ _ = (.iface 38 (Iv a1)) from rfl) rfl) rfl (Pu (Bv false) (Pt rfl rfl rfl) rfl (Nt (WC.condF (b := false) rfl rfl (Ck (Tc (Cs (Sr (Pm (GV (GErr.other b28)) hs21_0 rfl (Pu (.tuple #[.nilIface, (Bv false)]) (PO.asserts (show ev _ _ = (.iface 0 (.pointer (some b28))) from rfl) (la0_186 _ _)) rfl (Pm (.tuple #[.nilIface, (Bv false)]) rfl rfl (Pu .nilIface (Xt rfl rfl) rfl ?_)))))))))))
 refine Pu (Bv false) (Xt rfl rfl) rfl (Pa .nilIface rfl rfl (Pa (Bv false) rfl rfl (Ns (Pm (Bv false) rfl rfl (Pm (Bv false) rfl rfl ?_)))))
 iterate 3 refine Of 26 rfl rfl rfl rfl ?_
 refine Pu (Bv false) (Pf rfl rfl rfl) rfl (Nt (WC.condF (b := false) rfl rfl (Ck (Tc (Sr (Pm (GV (GErr.other b28)) hs21_0 rfl (Nt (Bk (Sr (Pu (.tuple #[.nilIface, (Bv false)]) (PO.asserts (show ev _ _ = (.iface 0 (.pointer (some b28))) from rfl) (la0_189 _ _)) rfl (Pu (Bv false) (Xt rfl rfl) rfl ?_)))))))))))
 refine Pu .nilIface (Xt rfl rfl) rfl (Nt (WC.condF (b := false) rfl rfl (Sr (Pu (.tuple #[.nilIface, (Bv false)]) (PO.asserts (show ev _ _ = (.iface 0 (.pointer (some b28))) from rfl) (la0_190 _ _)) rfl (Pu (Bv false) (Xt rfl rfl) rfl (Pu .nilIface (Xt rfl rfl) rfl (Nt (WC.condF (b := false) rfl rfl (Sr (Pa (GV (GErr.other b28)) rfl rfl (Ns ?_)))))))))))
 refine Pa (Bv false) rfl rfl (Nt (Cr (Br (Br (WQ.leaveR false (oi h).symm (fun heq21 => ?_))))))
 subst heq21
 have h := hK21
 exact Br (Rf h [] rfl (Rs rfl rfl) hle21 ⟨rfl, rfl⟩)

noncomputable def f_errors_Is (a0 : GErr) (a1 : Int) : Option Bool :=
  (if a0.isNil = true then (match a0 with | .nil => (some false) | .code n22 => (some (decide (n22 = a1))) | .fault o23 a24 e25 => (some false) | .other b26 => (some false)) else ((f_errors_is a0 a1).bind fun (r27 : Bool) => (some r27)))
def f_errors_Is_post (a0 : GErr) (a1 : Int) : Bool → Value → IM → HL → Prop :=
  fun (r0 : Bool) (v : Value) (M' : IM) (H' : HL) => (.bool r0) = v ∧ H' = []
theorem f_errors_Is_ok (a0 : GErr) (a1 : Int) (M : IM) (res : Bool) (h : f_errors_Is a0 a1 = some res) :
    Tri Tryz.prog 65 #[(GV a0), (GV (GErr.code a1))] M [] (f_errors_Is_post a0 a1 res) := by
 unfold f_errors_Is at h
 refine Te Tryz.func65 rfl rfl ?_
 intro F ρ hρ
 refine Sr (Pa (Bv false) rfl rfl (Nt (Cs (Sr (Pm (GV a0) (hρ 0) rfl (Pu (Bv a0.isNil) (PO.errNil Tryz.underlying31 rfl) rfl (Pm (Bv a0.isNil) rfl rfl ?_)))))))
 rcases Bt (a0.isNil) with hb21 | hb21
 have h := ite_t hb21 h
 iterate 2 refine Of 8 rfl rfl hb21 rfl ?_
 refine Pu (Bv true) (Pt rfl hb21 rfl) rfl (Nt (WC.condT (b := true) rfl rfl (Sr (Pm (GV a0) (hρ 0) rfl (Pm (GV (GErr.code a1)) (hρ 1) rfl ?_)))))
 rcases a0 with _ | n22 | ⟨o23, a24, e25⟩ | b26
 exact Pu (Bv false) (PO.nilIfaceNe Tryz.underlying31 (show ev _ _ = .nilIface from rfl) (show ev _ _ = (.iface 38 (Iv a1)) from rfl)) rfl (Pa (Bv false) rfl rfl (Nt (Cr (Tr (Rf h [] rfl (Rs rfl rfl) lr ⟨rfl, rfl⟩)))))
 exact Pu (Bv (decide (n22 = a1))) (PO.ifaceInt Tryz.underlying31 Tryz.underlying38 cm38 (show ev _ _ = (.iface 38 (Iv n22)) from rfl) (show ev _ _ = (.iface 38 (Iv a1)) from rfl)) rfl (Pa (Bv (decide (n22 = a1))) rfl rfl (Nt (Cr (Tr (Rf h [] rfl (Rs rfl rfl) lr ⟨rfl, rfl⟩)))))
 exact Pu (Bv false) (PO.ifaceNe Tryz.underlying31 (show ev _ _ = (.iface 108 (.agg #[.string o23, .int .i64 a24, GV e25])) from rfl) (show ev _ _ = (.iface 38 (Iv a1)) from rfl) rfl) rfl (Pa (Bv false) rfl rfl (Nt (Cr (Tr (Rf h [] rfl (Rs rfl rfl) lr ⟨rfl, rfl⟩)))))
 exact Pu (Bv false) (PO.ifaceNe Tryz.underlying31 (show ev _ _ = (.iface 0 (.pointer (some b26))) from rfl) (show ev _ _ = (.iface 38 (Iv a1)) from rfl) rfl) rfl (Pa (Bv false) rfl rfl (Nt (Cr (Tr (Rf h [] rfl (Rs rfl rfl) lr ⟨rfl, rfl⟩)))))
 have h := ite_f hb21 h
 refine On 8 rfl rfl hb21 (Pm (GV (GErr.code a1)) (hρ 1) rfl (On 8 rfl rfl hb21 (Pu (Bv false) (PO.errNil (tc := 38) (tf := 108) (tp := 0) (e := GErr.code a1) Tryz.underlying31 rfl) rfl (Pu (Bv false) (Pf rfl hb21 rfl) rfl (Nt (WC.condF (b := false) rfl rfl (Ck (Tc (Sr (Pm (GV (GErr.code a1)) (hρ 1) rfl (We (EO.extP xt91 (args1 (show ev _ _ = (.iface 38 (Iv a1)) from rfl)) (ty38 _)) rfl ?_)))))))))))
 rintro _ _ _ - ⟨rfl, rfl, rfl⟩
 refine We (EO.invE (show ev _ _ = (.iface 184 (.agg #[.pointer (some ⟨1, 38, none⟩)])) from rfl) (mm_Comparable (pt 1 38)) xt174 inv0 mr_Comparable_38) rfl ?_
 rintro _ _ _ - ⟨rfl, rfl, rfl⟩
 refine Pa (Bv true) rfl rfl (Ns (Pm (GV a0) (hρ 0) rfl (Pm (GV (GErr.code a1)) (hρ 1) rfl (Pm (Bv true) rfl rfl ?_))))
 obtain ⟨r27, hr28, h⟩ := bnd h
 refine We (Ca co92 (f_errors_is_ok a0 a1 _ r27 hr28) (args3 rfl rfl rfl)) rfl ?_
 rintro _ M29 _ hle30 ⟨_, ⟨rfl, rfl⟩, rfl⟩
 exact WL.a0 (Pa (Bv r27) rfl rfl (Nt (Cr (Rf h [] rfl (Rs rfl rfl) hle30 ⟨rfl, rfl⟩))))

noncomputable def f_fault_Is (a0 : GErr) (a1 : Int) : Option Bool :=
  ((f_errors_Is a0 a1).bind fun (r21 : Bool) => (some r21))
def f_fault_Is_post (a0 : GErr) (a1 : Int) : Bool → Value → IM → HL → Prop :=
  fun (r0 : Bool) (v : Value) (M' : IM) (H' : HL) => (.bool r0) = v ∧ H' = []
theorem f_fault_Is_ok (a0 : GErr) (a1 : Int) (M : IM) (res : Bool) (h : f_fault_Is a0 a1 = some res) :
    Tri Tryz.prog 22 #[(GV a0), (Iv a1)] M [] (f_fault_Is_post a0 a1 res) := by
 unfold f_fault_Is at h
 refine Te Tryz.func22 rfl rfl ?_
 intro F ρ hρ
 refine Sr (Pa (Bv false) rfl rfl (Ns (Pm (GV a0) (hρ 0) rfl (Pm (Iv a1) (hρ 1) rfl (Pu (GV (GErr.code a1)) (PO.makeInterface cc38 rfl) rfl ?_)))))
 obtain ⟨r21, hr22, h⟩ := bnd h
 refine We (Ca co65 (f_errors_Is_ok a0 a1 _ r21 hr22) (args2 rfl rfl)) rfl ?_
 rintro _ M23 _ hle24 ⟨_, ⟨rfl, rfl⟩, rfl⟩
 exact WL.a0 (Pa (Bv r21) rfl rfl (Nt (Cr (Rf h [] rfl (Rs rfl rfl) hle24 ⟨rfl, rfl⟩))))

noncomputable def f_slices_Clone_int_int (a0 : (List Int)) : Option (List Int) :=
  (grd (([] : List Int).length + a0.length ≤ 274877906944) (some (([] : List Int) ++ a0)))
def f_slices_Clone_int_int_post (a0 : (List Int)) (v0 : Value) : (List Int) → Value → IM → HL → Prop :=
  fun (r0 : (List Int)) (v : Value) (M' : IM) (H' : HL) => ∃ vz0 cz0, vz0 = v ∧ H' = [cz0] ∧ OwnS (Kd.int .i64) M' vz0 r0 cz0
theorem f_slices_Clone_int_int_ok (a0 : (List Int)) (M : IM) (v0 : Value) (h0 : RS (Kd.int .i64) M v0 a0) (res : (List Int)) (h : f_slices_Clone_int_int a0 = some res) :
    Tri Tryz.prog 140 #[v0] M [] (f_slices_Clone_int_int_post a0 v0 res) := by
 unfold f_slices_Clone_int_int at h
 refine Te Tryz.func140 rfl rfl ?_
 intro F ρ hρ
 refine Sr (Pa Zs rfl rfl (Nt (Cs (Sr (Pm v0 (hρ 0) rfl (Pu (Bv (nilS v0)) (PO.sliceNil Tryz.underlying56 rfl h0.len rfl) rfl (Nt (Cd (b := nilS v0) rfl (fun hb21 => ?_) (fun hb21 => ?_)))))))))
 obtain rfl := h0.nilxs (by decide) hb21
 have h := Eq.trans (a := ((some []) : Option (List Int))) (by simp [grd]) h
 exact Sr (Pa Zs rfl rfl (Nt (Cr (Tr (WQ.e0 (Rf h [[]] rfl (Rs rfl rfl) lr ⟨Zs, [], rfl, rfl, (OwnS.nil _ _)⟩))))))
 refine Ck (Tc (Sr (We (EO.buildSliceL (cl := []) Tryz.underlying56 iz3 rfl Pz rfl) rfl ?_)))
 rintro _ _ _ - ⟨rfl, g23, rfl, rfl⟩
 have h25 : OwnS (Kd.int .i64) M (.slice (some ⟨g23, 0, none⟩) 0 0) [] [(g23, .cells #[] 3 (0, 0))] := OwnS.rows (css := []) Rows.nil rfl rfl
 refine Pm v0 (hρ 0) rfl ?_
 obtain ⟨hg29, h⟩ := grd_i h
 refine We (EO.append (dd := (Kd.int .i64)) (xs := []) (ys := a0) Tryz.underlying56 Tryz.underlying56 in3 rfl (appB (by decide) hg29) (by decide) rfl rfl h25 (h0.src _)) rfl ?_
 rintro v28 _ _ - ⟨rfl, c26, rfl, h27⟩
 exact Pa v28 rfl rfl (Nt (Cr (Rf h [c26] rfl (Rs rfl rfl) lr ⟨v28, c26, rfl, rfl, h27⟩)))

noncomputable def f_batch_one (a0 : T_api_Record) : Option T_api_Record :=
  ((f_slices_Clone_int_int a0.Ids).bind fun (r23 : (List Int)) => ((f_slices_Clone_int_int a0.Isr).bind fun (r28 : (List Int)) => ((f_slices_Clone_int_int a0.Add).bind fun (r33 : (List Int)) => ((f_slices_Clone_int_int a0.Drop).bind fun (r38 : (List Int)) => (some (⟨a0.Kind, a0.Broker, a0.Epoch, a0.Topic, a0.Part, a0.Leader, a0.Client, a0.Serial, a0.Code, a0.Flag, a0.Name, a0.Key, a0.Value, a0.Rack, r23, r28, r33, r38⟩ : T_api_Record))))))
def f_batch_one_post (a0 : T_api_Record) (v0_14 v0_15 v0_16 v0_17 : Value) : T_api_Record → Value → IM → HL → Prop :=
  fun (r0 : T_api_Record) (v : Value) (M' : IM) (H' : HL) => ∃ vz0_14 cz0_14 vz0_15 cz0_15 vz0_16 cz0_16 vz0_17 cz0_17, (.agg #[(.int .i64 r0.Kind), (.int .i64 r0.Broker), (.int .i64 r0.Epoch), (.int .i64 r0.Topic), (.int .i64 r0.Part), (.int .i64 r0.Leader), (.int .i64 r0.Client), (.int .i64 r0.Serial), (.int .i64 r0.Code), (.bool r0.Flag), (.string r0.Name), (.string r0.Key), (.string r0.Value), (.string r0.Rack), vz0_14, vz0_15, vz0_16, vz0_17]) = v ∧ H' = [cz0_14, cz0_15, cz0_16, cz0_17] ∧ OwnS (Kd.int .i64) M' vz0_14 r0.Ids cz0_14 ∧ OwnS (Kd.int .i64) M' vz0_15 r0.Isr cz0_15 ∧ OwnS (Kd.int .i64) M' vz0_16 r0.Add cz0_16 ∧ OwnS (Kd.int .i64) M' vz0_17 r0.Drop cz0_17
theorem f_batch_one_ok (a0 : T_api_Record) (M : IM) (v0_14 v0_15 v0_16 v0_17 : Value) (h0_14 : RS (Kd.int .i64) M v0_14 a0.Ids) (h0_15 : RS (Kd.int .i64) M v0_15 a0.Isr) (h0_16 : RS (Kd.int .i64) M v0_16 a0.Add) (h0_17 : RS (Kd.int .i64) M v0_17 a0.Drop) (res : T_api_Record) (h : f_batch_one a0 = some res) :
    Tri Tryz.prog 121 #[(a58_ a0 v0_14 v0_15 v0_16 v0_17)] M [] (f_batch_one_post a0 v0_14 v0_15 v0_16 v0_17 res) := by
 unfold f_batch_one at h
 refine Te Tryz.func121 rfl rfl ?_
 intro F ρ hρ
 refine Sr (We (EO.box (cs := (l58 a0 v0_14 v0_15 v0_16 v0_17).toArray) (congrArg Value.cells (asE (a58_ a0 v0_14 v0_15 v0_16 v0_17) (hρ 0)))) rfl ?_)
 rintro _ _ _ - ⟨rfl, g21, rfl, rfl⟩
 refine We (Al ze58 rfl) rfl ?_
 rintro _ _ _ - ⟨rfl, g22, rfl, rfl⟩
 refine Nt (Cs (WC.draw [0, 1, 3, 0, 8, 31, 31, 127, 255, 511] (.pure 0 (.pure 1 (.pure 3 (.pure 4 (.alt 2 (.pure 6 (.alt 5 (.alt 7 (.pure 8 (.alt 9 .done .none)) .none) .none)) .none))))) mixed (by kernel_rfl) (Tp (pt g21 14) rfl (Fa fo58_14 rfl rfl) rfl (Tp v0_14 rfl (Lb 1 pl56 rfl rfl rfl) rfl (Tp (pt g21 15) rfl (Fa fo58_15 rfl rfl) rfl (Tp v0_15 rfl (Lb 1 pl56 rfl rfl rfl) rfl ?_))))))
 obtain ⟨r23, hr24, h⟩ := bnd h
 refine Ta rfl (Ca co140 (f_slices_Clone_int_int_ok a0.Ids _ _ h0_14 r23 hr24) (args1 rfl)) rfl ?_ ?_
 rintro _ M25 _ hle26 ⟨_, ⟨vq27, cq27, rfl, rfl, hq27⟩, rfl⟩
 refine ⟨(Ss rfl (Lb 2 pl56 rfl rfl rfl) rfl (Ss rfl (Fa fo58_15 rfl rfl) rfl (Sl rfl))), ?_⟩
 refine WT.a1 (Tp (pt g21 14) rfl (Fa fo58_14 rfl rfl) rfl ?_)
 obtain ⟨r28, hr29, h⟩ := bnd h
 have h0_15 := h0_15.mono hle26
 refine Ta rfl (Ca co140 (f_slices_Clone_int_int_ok a0.Isr _ _ h0_15 r28 hr29) (args1 rfl)) rfl ?_ ?_
 rintro _ M30 _ hle31 ⟨_, ⟨vq32, cq32, rfl, rfl, hq32⟩, rfl⟩
 refine ⟨(Ss rfl (Fa fo58_14 rfl rfl) rfl (Sl rfl)), ?_⟩
 refine WT.a1 (WT.f3 ?_)
 have hq27 := hq27.mono hle31
 refine Ta rfl (Es vq27 ((l58 a0 vq27 v0_15 v0_16 v0_17)) hq27.cells sz56 rfl rfl (Ow hq27) rfl rfl (by kernel_rfl)) rfl ?_ ?_
 rintro _ _ _ - ⟨rfl, rfl⟩
 refine ⟨(Sl rfl), ?_⟩
 refine Tp (pt g21 15) rfl (Fa fo58_15 rfl rfl) rfl (Ta rfl (Es vq32 ((l58 a0 vq27 vq32 v0_16 v0_17)) hq32.cells sz56 rfl rfl (Ow hq32) rfl rfl (by kernel_rfl)) rfl ?_ ?_)
 rintro _ _ _ - ⟨rfl, rfl⟩
 refine ⟨(Sl rfl), ?_⟩
 refine Ti (Tc (Cs (WC.draw [0, 1, 3, 0, 8, 31, 31, 127, 255, 511] (.pure 0 (.pure 1 (.pure 3 (.pure 4 (.alt 2 (.pure 6 (.alt 5 (.alt 7 (.pure 8 (.alt 9 .done .none)) .none) .none)) .none))))) mixed (by kernel_rfl) (Tp (pt g21 16) rfl (Fa fo58_16 rfl rfl) rfl (Tp v0_16 rfl (Lb 0 pl56 rfl rfl rfl) rfl (Tp (pt g21 17) rfl (Fa fo58_17 rfl rfl) rfl (Tp v0_17 rfl (Lb 0 pl56 rfl rfl rfl) rfl ?_)))))))
 obtain ⟨r33, hr34, h⟩ := bnd h
 have h0_16 := h0_16.mono (hle26.trans hle31)
 refine Ta rfl (Ca co140 (f_slices_Clone_int_int_ok a0.Add _ _ h0_16 r33 hr34) (args1 rfl)) rfl ?_ ?_
 rintro _ M35 _ hle36 ⟨_, ⟨vq37, cq37, rfl, rfl, hq37⟩, rfl⟩
 refine ⟨(Ss rfl (Lb 1 pl56 rfl rfl rfl) rfl (Ss rfl (Fa fo58_17 rfl rfl) rfl (Sl rfl))), ?_⟩
 refine WT.a1 (Tp (pt g21 16) rfl (Fa fo58_16 rfl rfl) rfl ?_)
 obtain ⟨r38, hr39, h⟩ := bnd h
 have h0_17 := h0_17.mono ((hle26.trans hle31).trans hle36)
 refine Ta rfl (Ca co140 (f_slices_Clone_int_int_ok a0.Drop _ _ h0_17 r38 hr39) (args1 rfl)) rfl ?_ ?_
 rintro _ M40 _ hle41 ⟨_, ⟨vq42, cq42, rfl, rfl, hq42⟩, rfl⟩
 refine ⟨(Ss rfl (Fa fo58_16 rfl rfl) rfl (Sl rfl)), ?_⟩
 refine WT.a1 (WT.f2 ?_)
 have hq37 := hq37.mono hle41
 refine Ta rfl (Es vq37 ((l58 a0 vq27 vq32 vq37 v0_17)) hq37.cells sz56 rfl rfl (Ow hq37) rfl rfl (by kernel_rfl)) rfl ?_ ?_
 rintro _ _ _ - ⟨rfl, rfl⟩
 refine ⟨(Sl rfl), ?_⟩
 refine Tp (pt g21 17) rfl (Fa fo58_17 rfl rfl) rfl (Ta rfl (Es vq42 ((l58 a0 vq27 vq32 vq37 vq42)) hq42.cells sz56 rfl rfl (Ow hq42) rfl rfl (by kernel_rfl)) rfl ?_ ?_)
 rintro _ _ _ - ⟨rfl, rfl⟩
 refine ⟨(Sl rfl), ?_⟩
 refine Ti (Tc (Sr (Pu (a58_ a0 vq27 vq32 vq37 vq42) (La (cs := (l58 a0 vq27 vq32 vq37 vq42)) 0 ag58 sz58 rfl rfl rfl) rfl (WL.f5 ?_))))
 have hq27 := hq27.mono (hle36.trans hle41)
 have hq32 := hq32.mono (hle36.trans hle41)
 refine We (Sg (v := (a58_ a0 vq27 vq32 vq37 vq42)) (vl := (l58 a0 vq27 vq32 vq37 vq42)) (arr' := (l58 a0 vq27 vq32 vq37 vq42)) rfl sz58 rfl rfl (onesOf (Oc rfl (Oc rfl (Oc rfl (Oc rfl (Oc rfl (Oc rfl (Oc rfl (Oc rfl (Oc rfl (Oc rfl (Oc rfl (Oc rfl (Oc rfl (Oc rfl (Oc (Ow hq27) (Oc (Ow hq32) (Oc (Ow hq37) (Oc (Ow hq42) Oz))))))))))))))))))) rfl rfl (by kernel_rfl)) rfl ?_
 rintro _ _ _ - ⟨rfl, rfl⟩
 exact Nt (Cr (Qa (Dr (Qa (Qb (WQ.f3 (WQ.f4 (WQ.f4 (Rd h [cq27, cq32, cq37, cq42] (fun _ hs => hs.drop) (resultsL1 rfl (Rc (cs := (l58 a0 vq27 vq32 vq37 vq42)) 0 ag58 sz58 rfl rfl rfl)) (((hle26.trans hle31).trans hle36).trans hle41) ⟨vq27, cq27, vq32, cq32, vq37, cq37, vq42, cq42, rfl, rfl, hq27, hq32, hq37, hq42⟩)))))))))
 exact Tz
 exact Tz
 exact Tz
 exact Tz
 exact Tz
 exact Tz
 exact Tz
 exact Tz

noncomputable def f_batch_Of_l0 (a2 : (List T_api_Record)) (s_ : (Int × (List T_api_Record))) : Option ((Int × (List T_api_Record)) ⊕ (List T_api_Record)) :=
  match s_ with
  | (x26, x27) =>
    (if (decide (x26 < (a2.length : Int))) = true then (grd (0 ≤ x26 ∧ x26 < a2.length) ((f_batch_one (rd a2 x26)).bind fun (r38 : T_api_Record) => (grd (x27.length + [r38].length ≤ 274877906944) (some (Sum.inl (IntKind.i64.wrap (x26 + (1 : Int)), x27 ++ [r38])))))) else (some (Sum.inr x27)))
noncomputable def f_batch_Of (a0 : Int) (a1 : Int) (a2 : (List T_api_Record)) : Option T_api_Batch :=
  ((((iter (f_batch_Of_l0 a2) ((0 : Int), [])).bind (fun (x28 : (List T_api_Record)) => (some x28))) : Option (List T_api_Record)).bind fun (x23 : (List T_api_Record)) => (some (⟨a0, a1, x23⟩ : T_api_Batch)))
def f_batch_Of_post (a0 : Int) (a1 : Int) (a2 : (List T_api_Record)) (v2 : Value) : T_api_Batch → Value → IM → HL → Prop :=
  fun (r0 : T_api_Batch) (v : Value) (M' : IM) (H' : HL) => ∃ vz0_2 cz0_2, (.agg #[(.int .i64 r0.Term), (.int .i64 r0.Base), vz0_2]) = v ∧ H' = [cz0_2] ∧ OwnS kd_api_Record M' vz0_2 r0.Records cz0_2
theorem f_batch_Of_ok (a0 : Int) (a1 : Int) (a2 : (List T_api_Record)) (M : IM) (v2 : Value) (h2 : RS kd_api_Record M v2 a2) (res : T_api_Batch) (h : f_batch_Of a0 a1 a2 = some res) :
    Tri Tryz.prog 80 #[(Iv a0), (Iv a1), v2] M [] (f_batch_Of_post a0 a1 a2 v2 res) := by
 unfold f_batch_Of at h
 refine Te Tryz.func80 rfl rfl ?_
 intro F ρ hρ
 refine Sr (We (Al ze55 rfl) rfl ?_)
 rintro _ _ _ - ⟨rfl, g21, rfl, rfl⟩
 refine Ns (Pm (Iv a0) (hρ 0) rfl (Pm (Iv a1) (hρ 1) rfl (Pu (.agg #[(Iv a0), (Iv a1), Zs]) (Bl (cl := [(Iv a0), (Iv a1), Zs]) ze55 fp55 (Pc (Iv a0) rfl rfl (Pc (Iv a1) rfl rfl Pz)) rfl) rfl (We (Al ze55 rfl) rfl ?_))))
 rintro _ _ _ - ⟨rfl, g22, rfl, rfl⟩
 refine We (Sg (v := (.agg #[(Iv a0), (Iv a1), Zs])) (vl := [(Iv a0), (Iv a1), Zs]) (arr' := [(Iv a0), (Iv a1), Zs]) rfl sz55 rfl rfl (onb rfl) rfl rfl rfl) rfl ?_
 rintro _ _ _ - ⟨rfl, rfl⟩
 refine Nt ?_
 obtain ⟨x23, hj24, h⟩ := bnd h
 refine Jf (fun (x23 : (List T_api_Record)) ρ' M' H' => ∃ vx23 cx23, M.le M' ∧ [(g22, .cells #[(Iv a0), (Iv a1), vx23] 55 (0, 0))] :: [(g21, .cells #[(Iv 0), (Iv 0), Zs] 55 (0, 0))] :: cx23 :: F = H' ∧ ρ' 6 = (pt g21 0) ∧ ρ' 7 = (pt g22 0) ∧ OwnS kd_api_Record M' vx23 x23 cx23) x23 ?_ ?_
 have h324 := h
 have h := hj24
 refine Sr (Pm v2 (hρ 2) rfl (Pu (Iv (a2.length : Int)) (PO.lenS Tryz.underlying53 rfl h2.len) rfl (Pm (Iv 0) rfl rfl (Nt (Bk (WC.e0 (WC.f2 (WC.f2 ?_))))))))
 obtain ⟨e25, he25, hK25⟩ := bnd h
 clear h
 refine WC.loop he25 (fun (p_ : (Int × (List T_api_Record))) ρ' M' H' => match p_ with | (x26, x27) => ∃ vx27 cx27, M.le M' ∧ [(g22, .cells #[(Iv a0), (Iv a1), vx27] 55 (0, 0))] :: [(g21, .cells #[(Iv 0), (Iv 0), Zs] 55 (0, 0))] :: cx27 :: F = H' ∧ ρ' 6 = (pt g21 0) ∧ ρ' 7 = (pt g22 0) ∧ ρ' 13 = v2 ∧ ρ' 14 = (Iv (a2.length : Int)) ∧ ρ' 15 = (Iv x26) ∧ OwnS kd_api_Record M' vx27 x27 cx27) ?_ ?_
 exact ⟨Zs, [], lr, rfl, rfl, rfl, rfl, rfl, rfl, (OwnS.nil _ _)⟩
 rintro ⟨x26, x27⟩ o25 ρ25 M25 H25 h ⟨vx27, cx27, hle25, rfl, hs25_6, hs25_7, hs25_13, hs25_14, hs25_15, hx27⟩
 unfold f_batch_Of_l0 at h
 refine Sr (Pu (Bv (decide (x26 < (a2.length : Int)))) (PO.lss hs25_15 hs25_14) rfl (Nt (Cs (Cd (b := decide (x26 < (a2.length : Int))) rfl (fun hb29 => ?_) (fun hb29 => ?_)))))
 have h := ite_t hb29 h
 refine Ck (Tc (Cs (Bk (Sr ?_))))
 obtain ⟨hg30, h⟩ := grd_i h
 have h2 := h2.mono hle25
 obtain ⟨p31, cs32, hat33, hrc34, hhas35⟩ := h2.at hg30.1 hg30.2 (by decide)
 obtain ⟨vw36_14, vw36_15, vw36_16, vw36_17, rfl, hw36_14, hw36_15, hw36_16, hw36_17⟩ := kd_api_Record_open hrc34
 refine Pu (.pointer (some p31)) (PO.indexAddr (n := a2.length) Tryz.underlying53 sz58 hs25_13 hs25_15 hg30.1 hg30.2 hat33) rfl (Pu (a58_ (rd a2 x26) vw36_14 vw36_15 vw36_16 vw36_17) (PO.loadMA (cs := (l58 (rd a2 x26) vw36_14 vw36_15 vw36_16 vw36_17)) ag58 sz58 rfl hhas35) rfl (We (Al ze58 rfl) rfl ?_))
 rintro _ _ _ - ⟨rfl, g37, rfl, rfl⟩
 refine We (Sg (v := (a58_ (rd a2 x26) vw36_14 vw36_15 vw36_16 vw36_17)) (vl := (l58 (rd a2 x26) vw36_14 vw36_15 vw36_16 vw36_17)) (arr' := (l58 (rd a2 x26) vw36_14 vw36_15 vw36_16 vw36_17)) rfl sz58 rfl rfl (onesOf (Oc rfl (Oc rfl (Oc rfl (Oc rfl (Oc rfl (Oc rfl (Oc rfl (Oc rfl (Oc rfl (Oc rfl (Oc rfl (Oc rfl (Oc rfl (Oc rfl (Oc (RS.one hw36_14) (Oc (RS.one hw36_15) (Oc (RS.one hw36_16) (Oc (RS.one hw36_17) Oz))))))))))))))))))) rfl rfl (by kernel_rfl)) rfl ?_
 rintro _ _ _ - ⟨rfl, rfl⟩
 refine Nt (WC.draw [0, 1, 0, 4, 12, 31, 63, 127] (.pure 0 (.pure 1 (.pure 2 (.alt 3 (.alt 4 (.alt 5 (.pure 6 (.alt 7 .done .none)) .none) .none) .none)))) mixed (by kernel_rfl) (Tp (pt g22 2) rfl (Fa fo55_2 hs25_7 rfl) rfl (Tp vx27 rfl (Lb 1 pl53 rfl rfl rfl) rfl (Tp (a58_ (rd a2 x26) vw36_14 vw36_15 vw36_16 vw36_17) rfl (La (cs := (l58 (rd a2 x26) vw36_14 vw36_15 vw36_16 vw36_17)) 0 ag58 sz58 rfl rfl rfl) rfl ?_))))
 obtain ⟨r38, hr39, h⟩ := bnd h
 refine Ta rfl (Ca co121 (f_batch_one_ok (rd a2 x26) _ _ _ _ _ hw36_14 hw36_15 hw36_16 hw36_17 r38 hr39) (args1 rfl)) rfl ?_ ?_
 rintro _ M40 _ hle41 ⟨_, ⟨vq42_14, cq42_14, vq42_15, cq42_15, vq42_16, cq42_16, vq42_17, cq42_17, rfl, rfl, hq42_14, hq42_15, hq42_16, hq42_17⟩, rfl⟩
 refine ⟨(Sk 1 rfl (Ss rfl (Lb 5 pl53 rfl rfl rfl) rfl (Ss rfl (Fa fo55_2 hs25_7 rfl) rfl trivial))), ?_⟩
 refine WT.a4 (WT.know (fun _ hs => hq42_14.rs hs) (fun hf47 => ?_))
 refine WT.freeze (fun hle46 => ?_)
 have hq42_15 := hq42_15.mono hle46
 refine WT.know (fun _ hs => hq42_15.rs hs) (fun hf52 => ?_)
 refine WT.freeze (fun hle51 => ?_)
 have hq42_16 := hq42_16.mono (hle46.trans hle51)
 refine WT.know (fun _ hs => hq42_16.rs hs) (fun hf57 => ?_)
 refine WT.freeze (fun hle56 => ?_)
 have hq42_17 := hq42_17.mono ((hle46.trans hle51).trans hle56)
 refine WT.know (fun _ hs => hq42_17.rs hs) (fun hf62 => ?_)
 refine WT.freeze (fun hle61 => ?_)
 refine Ta rfl (EO.buildSliceL (cl := (l58 r38 vq42_14 vq42_15 vq42_16 vq42_17)) Tryz.underlying53 iz58 rfl (Pc (a58_ r38 vq42_14 vq42_15 vq42_16 vq42_17) rfl rfl Pz) rfl) rfl ?_ ?_
 rintro _ _ _ - ⟨rfl, g63, rfl, rfl⟩
 have hf47 := hf47.mono ((hle51.trans hle56).trans hle61)
 have hf52 := hf52.mono (hle56.trans hle61)
 have hf57 := hf57.mono hle61
 have h65 : OwnS kd_api_Record ((((M40.add cq42_14).add cq42_15).add cq42_16).add cq42_17) (.slice (some ⟨g63, 0, none⟩) 1 1) [r38] [(g63, .cells (l58 r38 vq42_14 vq42_15 vq42_16 vq42_17).toArray 58 (0, 0))] := OwnS.rows (css := [(l58 r38 vq42_14 vq42_15 vq42_16 vq42_17)]) (Rows.cons (kd_api_Record_mk (x := r38) hf47 hf52 hf57 hf62) Rows.nil) rfl rfl
 refine ⟨(Sk 1 rfl (Ss rfl (Lb 2 pl53 rfl rfl rfl) rfl (Ss rfl (Fa fo55_2 hs25_7 rfl) rfl trivial))), ?_⟩
 obtain ⟨hg69, h⟩ := grd_i h
 refine WT.f4 ?_
 have hx27 := hx27.mono ((((hle41.trans hle46).trans hle51).trans hle56).trans hle61)
 refine Ta rfl (EO.append (dd := kd_api_Record) (xs := x27) (ys := [r38]) Tryz.underlying53 Tryz.underlying53 in58 rfl (appB (by decide) hg69) (by decide) rfl rfl hx27 (h65.src 1 rfl)) rfl ?_ ?_
 rintro v68 _ _ - ⟨rfl, c66, rfl, h67⟩
 refine ⟨(Sl rfl), ?_⟩
 refine Tp (pt g22 2) rfl (Fa fo55_2 hs25_7 rfl) rfl (WT.f3 (Ta rfl (Es v68 [(Iv a0), (Iv a1), v68] h67.cells sz53 rfl rfl (Ow h67) rfl rfl rfl) rfl ?_ ?_))
 rintro _ _ _ - ⟨rfl, rfl⟩
 refine ⟨(Sl rfl), ?_⟩
 refine Ti (Bn (Tc (Cg (Pu (Iv (IntKind.i64.wrap (x26 + 1))) (PO.add hs25_15 rfl) rfl (Pm (Iv (IntKind.i64.wrap (x26 + 1))) rfl rfl (Wz (Qb (Dr (Qb (Dr (Qa ?_)))))))))))
 exact Qb (Qb (WQ.again (IntKind.i64.wrap (x26 + 1), x27 ++ [r38]) (oi h).symm ⟨v68, c66, (((((hle25.trans hle41).trans hle46).trans hle51).trans hle56).trans hle61), rfl, hs25_6, hs25_7, hs25_13, hs25_14, rfl, h67⟩))
 exact Tz
 exact Tz
 exact Tz
 exact Tz
 have h := ite_f hb29 h
 refine WC.exit (WQ.thenE (WQ.leaveE x27 (oi h).symm (fun heq25 => ?_)))
 subst heq25
 have h := hK25
 refine WQ.blockH ?_
 obtain rfl := oi h
 exact Tj ⟨vx27, cx27, hle25, rfl, hs25_6, hs25_7, hx27⟩
 rintro ρ24 M24 H24 ⟨vx23, cx23, hle24, rfl, hs24_6, hs24_7, hx23⟩
 refine Sr (Pu (.agg #[(Iv a0), (Iv a1), vx23]) (La (cs := [(Iv a0), (Iv a1), vx23]) 0 ag55 sz55 hs24_7 rfl rfl) rfl (WL.f1 (We (Sg (v := (.agg #[(Iv a0), (Iv a1), vx23])) (vl := [(Iv a0), (Iv a1), vx23]) (arr' := [(Iv a0), (Iv a1), vx23]) rfl sz55 hs24_6 rfl (onesOf (Oc rfl (Oc rfl (Oc (Ow hx23) Oz)))) rfl rfl rfl) rfl ?_)))
 rintro _ _ _ - ⟨rfl, rfl⟩
 exact Nt (Cr (Qa (Dr (Rd h [cx23] (fun _ hs => hs.drop) (resultsL1 rfl (Rc (cs := [(Iv a0), (Iv a1), vx23]) 0 ag55 sz55 hs24_6 rfl rfl)) hle24 ⟨vx23, cx23, rfl, rfl, hx23⟩))))

noncomputable def f_batch_Copy (a0 : T_api_Batch) : Option T_api_Batch :=
  ((f_batch_Of a0.Term a0.Base a0.Records).bind fun (r23 : T_api_Batch) => (some r23))
def f_batch_Copy_post (a0 : T_api_Batch) (v0_2 : Value) : T_api_Batch → Value → IM → HL → Prop :=
  fun (r0 : T_api_Batch) (v : Value) (M' : IM) (H' : HL) => ∃ vz0_2 cz0_2, (.agg #[(.int .i64 r0.Term), (.int .i64 r0.Base), vz0_2]) = v ∧ H' = [cz0_2] ∧ OwnS kd_api_Record M' vz0_2 r0.Records cz0_2
theorem f_batch_Copy_ok (a0 : T_api_Batch) (M : IM) (v0_2 : Value) (h0_2 : RS kd_api_Record M v0_2 a0.Records) (res : T_api_Batch) (h : f_batch_Copy a0 = some res) :
    Tri Tryz.prog 55 #[(a55_ a0 v0_2)] M [] (f_batch_Copy_post a0 v0_2 res) := by
 unfold f_batch_Copy at h
 refine Te Tryz.func55 rfl rfl ?_
 intro F ρ hρ
 refine Sr (We (EO.box (cs := (l55 a0 v0_2).toArray) (congrArg Value.cells (asE (a55_ a0 v0_2) (hρ 0)))) rfl ?_)
 rintro _ _ _ - ⟨rfl, g21, rfl, rfl⟩
 refine We (Al ze55 rfl) rfl ?_
 rintro _ _ _ - ⟨rfl, g22, rfl, rfl⟩
 refine Ns (Pu (pt g21 0) (Fa fo55_0 rfl rfl) rfl (Pu (Iv a0.Term) (Lb 1 pl3 rfl rfl rfl) rfl (Pu (pt g21 1) (Fa fo55_1 rfl rfl) rfl (Pu (Iv a0.Base) (Lb 1 pl3 rfl rfl rfl) rfl (Pu (pt g21 2) (Fa fo55_2 rfl rfl) rfl (Pu v0_2 (Lb 1 pl53 rfl rfl rfl) rfl ?_))))))
 obtain ⟨r23, hr24, h⟩ := bnd h
 refine We (Ca co80 (f_batch_Of_ok a0.Term a0.Base a0.Records _ _ h0_2 r23 hr24) (args3 rfl rfl rfl)) rfl ?_
 rintro _ M25 _ hle26 ⟨_, ⟨vq27_2, cq27_2, rfl, rfl, hq27_2⟩, rfl⟩
 refine WL.a1 (WL.f1 (We (Sg (v := (a55_ r23 vq27_2)) (vl := (l55 r23 vq27_2)) (arr' := (l55 r23 vq27_2)) rfl sz55 rfl rfl (onesOf (Oc rfl (Oc rfl (Oc (Ow hq27_2) Oz)))) rfl rfl rfl) rfl ?_))
 rintro _ _ _ - ⟨rfl, rfl⟩
 exact Nt (Cr (Qb (Dr (Rd h [cq27_2] (fun _ hs => hs.drop) (resultsL1 rfl (Rc (cs := (l55 r23 vq27_2)) 0 ag55 sz55 rfl rfl rfl)) hle26 ⟨vq27_2, cq27_2, rfl, rfl, hq27_2⟩))))

noncomputable def f_rpc_Copy_l0 (a0 : T_api_Rpc) (s_ : ((List T_api_Batch) × Int)) : Option (((List T_api_Batch) × Int) ⊕ (List T_api_Batch)) :=
  match s_ with
  | (x31, x32) =>
    (if (decide (x32 < (a0.Batches.length : Int))) = true then (grd (0 ≤ x32 ∧ x32 < a0.Batches.length) ((f_batch_Copy (rd a0.Batches x32)).bind fun (r43 : T_api_Batch) => (grd (x31.length + [r43].length ≤ 274877906944) (some (Sum.inl (x31 ++ [r43], IntKind.i64.wrap (x32 + (1 : Int)))))))) else (some (Sum.inr x31)))
noncomputable def f_rpc_Copy (a0 : T_api_Rpc) : Option T_api_Rpc :=
  ((f_slices_Clone_byte_byte a0.Data).bind fun (r23 : (List Int)) => ((((iter (f_rpc_Copy_l0 a0) ([], (0 : Int))).bind (fun (x33 : (List T_api_Batch)) => (some x33))) : Option (List T_api_Batch)).bind fun (x28 : (List T_api_Batch)) => (some (⟨a0.Kind, a0.From, a0.To, a0.Term, a0.Pre, a0.Ok, a0.Leader, a0.At, a0.AtTerm, a0.High, a0.Code, x28, a0.Size, a0.Pos, r23⟩ : T_api_Rpc))))
def f_rpc_Copy_post (a0 : T_api_Rpc) (v0_11 v0_14 : Value) : T_api_Rpc → Value → IM → HL → Prop :=
  fun (r0 : T_api_Rpc) (v : Value) (M' : IM) (H' : HL) => ∃ vz0_11 cz0_11 vz0_14 cz0_14, (.agg #[(.int .i64 r0.Kind), (.int .i64 r0.From), (.int .i64 r0.To), (.int .i64 r0.Term), (.bool r0.Pre), (.bool r0.Ok), (.int .i64 r0.Leader), (.int .i64 r0.At), (.int .i64 r0.AtTerm), (.int .i64 r0.High), (.int .i64 r0.Code), vz0_11, (.int .i64 r0.Size), (.int .i64 r0.Pos), vz0_14]) = v ∧ H' = [cz0_11, cz0_14] ∧ OwnS kd_api_Batch M' vz0_11 r0.Batches cz0_11 ∧ OwnS (Kd.int .u8) M' vz0_14 r0.Data cz0_14
theorem f_rpc_Copy_ok (a0 : T_api_Rpc) (M : IM) (v0_11 v0_14 : Value) (h0_11 : RS kd_api_Batch M v0_11 a0.Batches) (h0_14 : RS (Kd.int .u8) M v0_14 a0.Data) (res : T_api_Rpc) (h : f_rpc_Copy a0 = some res) :
    Tri Tryz.prog 18 #[(a25_ a0 v0_11 v0_14)] M [] (f_rpc_Copy_post a0 v0_11 v0_14 res) := by
 unfold f_rpc_Copy at h
 refine Te Tryz.func18 rfl rfl ?_
 intro F ρ hρ
 refine Sr (We (EO.box (cs := (l25 a0 v0_11 v0_14).toArray) (congrArg Value.cells (asE (a25_ a0 v0_11 v0_14) (hρ 0)))) rfl ?_)
 rintro _ _ _ - ⟨rfl, g21, rfl, rfl⟩
 refine We (Al ze25 rfl) rfl ?_
 rintro _ _ _ - ⟨rfl, g22, rfl, rfl⟩
 refine Ns (Pu (pt g21 14) (Fa fo25_14 rfl rfl) rfl (Pu v0_14 (Lb 1 pl23 rfl rfl rfl) rfl ?_))
 obtain ⟨r23, hr24, h⟩ := bnd h
 refine We (Ca co54 (f_slices_Clone_byte_byte_ok a0.Data _ _ h0_14 r23 hr24) (args1 rfl)) rfl ?_
 rintro _ M25 _ hle26 ⟨_, ⟨vq27, cq27, rfl, rfl, hq27⟩, rfl⟩
 refine WL.a1 (Pu (pt g21 14) (Fa fo25_14 rfl rfl) rfl (Wb (We (Es vq27 ((l25 a0 v0_11 vq27)) hq27.cells sz23 rfl rfl (Ow hq27) rfl rfl (by kernel_rfl)) rfl ?_)))
 rintro _ _ _ - ⟨rfl, rfl⟩
 refine Ns (Pa Zs rfl rfl (Nt ?_))
 obtain ⟨x28, hj29, h⟩ := bnd h
 refine Jf (fun (x28 : (List T_api_Batch)) ρ' M' H' => ∃ vx28 cx28, M25.le M' ∧ [(g21, .cells (l25 a0 v0_11 vq27).toArray 25 (0, 0))] :: [(g22, .cells z25_.toArray 25 (0, 0))] :: cx28 :: cq27 :: F = H' ∧ ρ' 1 = (pt g21 0) ∧ ρ' 2 = (pt g22 0) ∧ ρ' 3 = vx28 ∧ OwnS kd_api_Batch M' vx28 x28 cx28) x28 ?_ ?_
 have h329 := h
 have h := hj29
 refine Sr (Pu (pt g21 11) (Fa fo25_11 rfl rfl) rfl (Pu v0_11 (Lb 0 pl22 rfl rfl rfl) rfl ?_))
 have h0_11 := h0_11.mono hle26
 refine Pu (Iv (a0.Batches.length : Int)) (PO.lenS Tryz.underlying22 rfl h0_11.len) rfl (Pm (Iv 0) rfl rfl (Nt (Bk (WC.e0 (WC.f2 (WC.f1 (WC.f3 (WC.f3 ?_))))))))
 obtain ⟨e30, he30, hK30⟩ := bnd h
 clear h
 refine WC.loop he30 (fun (p_ : ((List T_api_Batch) × Int)) ρ' M' H' => match p_ with | (x31, x32) => ∃ vx31 cx31, M25.le M' ∧ [(g21, .cells (l25 a0 v0_11 vq27).toArray 25 (0, 0))] :: [(g22, .cells z25_.toArray 25 (0, 0))] :: cx31 :: cq27 :: F = H' ∧ ρ' 1 = (pt g21 0) ∧ ρ' 2 = (pt g22 0) ∧ ρ' 3 = vx31 ∧ ρ' 11 = v0_11 ∧ ρ' 12 = (Iv (a0.Batches.length : Int)) ∧ ρ' 13 = (Iv x32) ∧ OwnS kd_api_Batch M' vx31 x31 cx31) ?_ ?_
 exact ⟨Zs, [], lr, rfl, rfl, rfl, rfl, rfl, rfl, rfl, (OwnS.nil _ _)⟩
 rintro ⟨x31, x32⟩ o30 ρ30 M30 H30 h ⟨vx31, cx31, hle30, rfl, hs30_1, hs30_2, hs30_3, hs30_11, hs30_12, hs30_13, hx31⟩
 unfold f_rpc_Copy_l0 at h
 refine Sr (Pu (Bv (decide (x32 < (a0.Batches.length : Int)))) (PO.lss hs30_13 hs30_12) rfl (Nt (Cs (Cd (b := decide (x32 < (a0.Batches.length : Int))) rfl (fun hb34 => ?_) (fun hb34 => ?_)))))
 have h := ite_t hb34 h
 refine Ck (Tc (Cs (Bk (Sr ?_))))
 obtain ⟨hg35, h⟩ := grd_i h
 have h0_11 := h0_11.mono hle30
 obtain ⟨p36, cs37, hat38, hrc39, hhas40⟩ := h0_11.at hg35.1 hg35.2 (by decide)
 obtain ⟨vw41_2, rfl, hw41_2⟩ := kd_api_Batch_open hrc39
 refine Pu (.pointer (some p36)) (PO.indexAddr (n := a0.Batches.length) Tryz.underlying22 sz55 hs30_11 hs30_13 hg35.1 hg35.2 hat38) rfl (Pu (a55_ (rd a0.Batches x32) vw41_2) (PO.loadMA (cs := (l55 (rd a0.Batches x32) vw41_2)) ag55 sz55 rfl hhas40) rfl (We (Al ze55 rfl) rfl ?_))
 rintro _ _ _ - ⟨rfl, g42, rfl, rfl⟩
 refine We (Sg (v := (a55_ (rd a0.Batches x32) vw41_2)) (vl := (l55 (rd a0.Batches x32) vw41_2)) (arr' := (l55 (rd a0.Batches x32) vw41_2)) rfl sz55 rfl rfl (onesOf (Oc rfl (Oc rfl (Oc (RS.one hw41_2) Oz)))) rfl rfl rfl) rfl ?_
 rintro _ _ _ - ⟨rfl, rfl⟩
 refine Nt (Cg (Pm vx31 hs30_3 rfl (Pu (a55_ (rd a0.Batches x32) vw41_2) (La (cs := (l55 (rd a0.Batches x32) vw41_2)) 0 ag55 sz55 rfl rfl rfl) rfl ?_)))
 obtain ⟨r43, hr44, h⟩ := bnd h
 refine We (Ca co55 (f_batch_Copy_ok (rd a0.Batches x32) _ _ hw41_2 r43 hr44) (args1 rfl)) rfl ?_
 rintro _ M45 _ hle46 ⟨_, ⟨vq47_2, cq47_2, rfl, rfl, hq47_2⟩, rfl⟩
 refine WL.a1 (WL.know (fun _ hs => hq47_2.rs hs) (fun hf52 => ?_))
 refine WL.freeze (fun hle51 => ?_)
 refine We (EO.buildSliceL (cl := (l55 r43 vq47_2)) Tryz.underlying22 iz55 rfl (Pc (a55_ r43 vq47_2) rfl rfl Pz) rfl) rfl ?_
 rintro _ _ _ - ⟨rfl, g53, rfl, rfl⟩
 have h55 : OwnS kd_api_Batch (M45.add cq47_2) (.slice (some ⟨g53, 0, none⟩) 1 1) [r43] [(g53, .cells (l55 r43 vq47_2).toArray 55 (0, 0))] := OwnS.rows (css := [(l55 r43 vq47_2)]) (Rows.cons (kd_api_Batch_mk (x := r43) hf52) Rows.nil) rfl rfl
 obtain ⟨hg59, h⟩ := grd_i h
 refine WL.f4 ?_
 have hx31 := hx31.mono (hle46.trans hle51)
 refine We (EO.append (dd := kd_api_Batch) (xs := x31) (ys := [r43]) Tryz.underlying22 Tryz.underlying22 in55 rfl (appB (by decide) hg59) (by decide) rfl rfl hx31 (h55.src 1 rfl)) rfl ?_
 rintro v58 _ _ - ⟨rfl, c56, rfl, h57⟩
 refine Pa v58 rfl rfl (Wz (Bn (Tc (Cg (Pu (Iv (IntKind.i64.wrap (x32 + 1))) (PO.add hs30_13 rfl) rfl (Pm (Iv (IntKind.i64.wrap (x32 + 1))) rfl rfl (Wz (Qa (Dr (Qa (Dr ?_)))))))))))
 exact WQ.f3 (Qa (WQ.f3 (WQ.f3 (WQ.again (x31 ++ [r43], IntKind.i64.wrap (x32 + 1)) (oi h).symm ⟨v58, c56, ((hle30.trans hle46).trans hle51), rfl, hs30_1, hs30_2, rfl, hs30_11, hs30_12, rfl, h57⟩))))
 have h := ite_f hb34 h
 refine WC.exit (WQ.thenE (WQ.leaveE x31 (oi h).symm (fun heq30 => ?_)))
 subst heq30
 have h := hK30
 refine WQ.blockH ?_
 obtain rfl := oi h
 exact Tj ⟨vx31, cx31, hle30, rfl, hs30_1, hs30_2, hs30_3, hx31⟩
 rintro ρ29 M29 H29 ⟨vx28, cx28, hle29, rfl, hs29_1, hs29_2, hs29_3, hx28⟩
 refine Sr (Pm vx28 hs29_3 rfl (Pu (pt g21 11) (Fa fo25_11 hs29_1 rfl) rfl (We (Es vx28 ((l25 a0 vx28 vq27)) hx28.cells sz22 rfl rfl (Ow hx28) rfl rfl (by kernel_rfl)) rfl ?_)))
 rintro _ _ _ - ⟨rfl, rfl⟩
 refine Ns (Pu (a25_ a0 vx28 vq27) (La (cs := (l25 a0 vx28 vq27)) 0 ag25 sz25 hs29_1 rfl rfl) rfl (WL.f1 ?_))
 have hq27 := hq27.mono hle29
 refine We (Sg (v := (a25_ a0 vx28 vq27)) (vl := (l25 a0 vx28 vq27)) (arr' := (l25 a0 vx28 vq27)) rfl sz25 hs29_2 rfl (onesOf (Oc rfl (Oc rfl (Oc rfl (Oc rfl (Oc rfl (Oc rfl (Oc rfl (Oc rfl (Oc rfl (Oc rfl (Oc rfl (Oc (Ow hx28) (Oc rfl (Oc rfl (Oc (Ow hq27) Oz)))))))))))))))) rfl rfl (by kernel_rfl)) rfl ?_
 rintro _ _ _ - ⟨rfl, rfl⟩
 exact Nt (Cr (Qa (Dr (Rd h [cx28, cq27] (fun _ hs => hs.drop) (resultsL1 rfl (Rc (cs := (l25 a0 vx28 vq27)) 0 ag25 sz25 hs29_2 rfl rfl)) (hle26.trans hle29) ⟨vx28, cx28, vq27, cq27, rfl, rfl, hx28, hq27⟩))))


end Go.Proofs.YtkflneabcannnaaGreatDoor.G
