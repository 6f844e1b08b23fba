/- Go functions: what they come to, and that they do. Printed by a program of the session (gen). -/
import Derived.Test.YtjiffdgidodebaaDoorCF
import Derived.Test.YtjiffdgidodebaaDoorC0
import Derived.Test.YtjiffdgidodebaaDoorKShar2
import Derived.Test.YtjiffdgidodebaaDoorKConv
set_option linter.unusedVariables false
set_option linter.unusedSimpArgs false
set_option maxHeartbeats 8000000
set_option maxRecDepth 100000
namespace Go.Proofs.YtjiffdgidodebaaDoor.G
open Go Go.KK

noncomputable def f_record_Name_l0 (a0 : ByteArray) (s_ : Int) : Option (Int ⊕ (Unit ⊕ Unit)) :=
  match s_ with
  | x32 =>
    (if (decide (x32 < ((bytesOf a0).length : Int))) = true then (grd (0 ≤ x32 ∧ x32 < (bytesOf a0).length) (((if (decide ((97 : Int) ≤ (rd (bytesOf a0) x32))) = true then (if (decide ((48 : Int) ≤ (rd (bytesOf a0) x32))) = true then (some (decide ((rd (bytesOf a0) x32) ≤ (122 : Int)), decide ((rd (bytesOf a0) x32) ≤ (57 : Int)))) else (some (decide ((rd (bytesOf a0) x32) ≤ (122 : Int)), false))) else (if (decide ((48 : Int) ≤ (rd (bytesOf a0) x32))) = true then (some (false, decide ((rd (bytesOf a0) x32) ≤ (57 : Int)))) else (some (false, false)))) : Option (Bool × Bool)).bind fun (x41, x42) => (((if (!x41) = true then (if (!x42) = true then (if (decide ((rd (bytesOf a0) x32) ≠ (46 : Int))) = true then (some (decide ((rd (bytesOf a0) x32) ≠ (45 : Int)))) else (some false)) else (some false)) else (some false)) : Option Bool).bind fun (x47 : Bool) => (if x47 = true then (some (Sum.inr (Sum.inr ()))) else (some (Sum.inl (IntKind.i64.wrap (x32 + (1 : Int))))))))) else (some (Sum.inr (Sum.inl ()))))
noncomputable def f_record_Name (a0 : ByteArray) : Option Bool :=
  (((if (decide (a0 = (⟨#[]⟩ : ByteArray))) = true then (some true) else (if (decide ((40 : Int) < (a0.size : Int))) = true then (some true) else (if (decide (a0 = (⟨#[46]⟩ : ByteArray))) = true then (some true) else (some (decide (a0 = (⟨#[46, 46]⟩ : ByteArray))))))) : Option Bool).bind fun (x21 : Bool) => (if x21 = true then (some false) else ((((iter (f_record_Name_l0 a0) (0 : Int)).bind (Sum.elim (fun _ => (some (Sum.inl ()))) (fun _ => (((some false)).bind fun r => some (Sum.inr r))))) : Option (Unit ⊕ Bool)).bind (Sum.elim (fun _ => (some true)) some))))
def f_record_Name_post (a0 : ByteArray) : Bool → Value → IM → HL → Prop :=
  fun (r0 : Bool) (v : Value) (M' : IM) (H' : HL) => (.bool r0) = v ∧ H' = []
theorem f_record_Name_ok (a0 : ByteArray) (M : IM) (res : Bool) (h : f_record_Name a0 = some res) :
    Tri Tryd.prog 106 #[(.string a0)] M [] (f_record_Name_post a0 res) := by
 unfold f_record_Name at h
 refine Tri.enter (fn := Tryd.f106) Tryd.func106 rfl (Nat.le_of_ble_eq_true rfl) ?_
 intro F ρ hρ
 refine Sr ?_
 refine Pa (.bool false) rfl rfl ?_
 refine Nt ?_
 refine WC.seq ?_
 obtain ⟨x21, hj22, h⟩ := bnd h
 refine WC.joinF (fun (x21 : Bool) ρ' M' H' => M.le M' ∧ F = H' ∧ ρ' 0 = (.string a0) ∧ ρ' 21 = (.bool x21)) x21 ?_ ?_
 have h322 := h
 have h := hj22
 refine WC.region ?_
 refine Pm (.string a0) (hρ 0) rfl ?_
 refine Pu (.bool (decide (a0 = (⟨#[]⟩ : ByteArray)))) (PO.seql rfl rfl) rfl ?_
 refine Pm (.bool (decide (a0 = (⟨#[]⟩ : ByteArray)))) rfl rfl ?_
 rcases Bool.eq_false_or_eq_true (decide (a0 = (⟨#[]⟩ : ByteArray))) with hb23 | hb23
 have h := ite_t hb23 h
 iterate 3 refine Of 9 rfl rfl hb23 rfl ?_
 refine Pu (.bool true) (PO.pickT rfl hb23 rfl) rfl ?_
 refine Pm (.bool true) rfl rfl ?_
 iterate 2 refine Of 14 rfl rfl rfl rfl ?_
 refine Pu (.bool true) (PO.pickT rfl rfl rfl) rfl ?_
 refine Pm (.bool true) rfl rfl ?_
 iterate 2 refine Of 18 rfl rfl rfl rfl ?_
 refine Pu (.bool true) (PO.pickT rfl rfl rfl) rfl ?_
 refine WL.nil ?_
 obtain rfl := Option.some.inj h
 refine WQ.thenJ ?_
 exact ⟨(IM.le.refl _), rfl, (hρ 0), rfl⟩
 have h := ite_f hb23 h
 refine On 9 rfl rfl hb23 ?_
 refine Pm (.string a0) (hρ 0) rfl ?_
 refine On 9 rfl rfl hb23 ?_
 refine Pu (.int .i64 (a0.size : Int)) (PO.lenStr Tryd.underlying9 rfl) rfl ?_
 refine On 9 rfl rfl hb23 ?_
 refine Pu (.bool (decide ((40 : Int) < (a0.size : Int)))) (PO.gtr rfl rfl) rfl ?_
 refine Pu (.bool (decide ((40 : Int) < (a0.size : Int)))) (PO.pickF rfl hb23 rfl) rfl ?_
 refine Pm (.bool (decide ((40 : Int) < (a0.size : Int)))) rfl rfl ?_
 rcases Bool.eq_false_or_eq_true (decide ((40 : Int) < (a0.size : Int))) with hb24 | hb24
 have h := ite_t hb24 h
 iterate 2 refine Of 14 rfl rfl hb24 rfl ?_
 refine Pu (.bool true) (PO.pickT rfl hb24 rfl) rfl ?_
 refine Pm (.bool true) rfl rfl ?_
 iterate 2 refine Of 18 rfl rfl rfl rfl ?_
 refine Pu (.bool true) (PO.pickT rfl rfl rfl) rfl ?_
 refine WL.nil ?_
 obtain rfl := Option.some.inj h
 refine WQ.thenJ ?_
 exact ⟨(IM.le.refl _), rfl, (hρ 0), rfl⟩
 have h := ite_f hb24 h
 refine On 14 rfl rfl hb24 ?_
 refine Pm (.string a0) (hρ 0) rfl ?_
 refine On 14 rfl rfl hb24 ?_
 refine Pu (.bool (decide (a0 = (⟨#[46]⟩ : ByteArray)))) (PO.seql rfl rfl) rfl ?_
 refine Pu (.bool (decide (a0 = (⟨#[46]⟩ : ByteArray)))) (PO.pickF rfl hb24 rfl) rfl ?_
 refine Pm (.bool (decide (a0 = (⟨#[46]⟩ : ByteArray)))) rfl rfl ?_
 rcases Bool.eq_false_or_eq_true (decide (a0 = (⟨#[46]⟩ : ByteArray))) with hb25 | hb25
 have h := ite_t hb25 h
 iterate 2 refine Of 18 rfl rfl hb25 rfl ?_
 refine Pu (.bool true) (PO.pickT rfl hb25 rfl) rfl ?_
 refine WL.nil ?_
 obtain rfl := Option.some.inj h
 refine WQ.thenJ ?_
 exact ⟨(IM.le.refl _), rfl, (hρ 0), rfl⟩
 have h := ite_f hb25 h
 refine On 18 rfl rfl hb25 ?_
 refine Pm (.string a0) (hρ 0) rfl ?_
 refine On 18 rfl rfl hb25 ?_
 refine Pu (.bool (decide (a0 = (⟨#[46, 46]⟩ : ByteArray)))) (PO.seql rfl rfl) rfl ?_
 refine Pu (.bool (decide (a0 = (⟨#[46, 46]⟩ : ByteArray)))) (PO.pickF rfl hb25 rfl) rfl ?_
 refine WL.nil ?_
 obtain rfl := Option.some.inj h
 refine WQ.thenJ ?_
 exact ⟨(IM.le.refl _), rfl, (hρ 0), rfl⟩
 rintro ρ22 M22 H22 ⟨hle22, rfl, hs22_0, hs22_21⟩
 refine WC.cond (b := x21) hs22_21 (fun hb26 => ?_) (fun hb26 => ?_)
 have h := ite_t hb26 h
 refine Sr ?_
 refine Pa (.bool false) rfl rfl ?_
 refine Nt ?_
 refine WC.ret ?_
 refine WQ.thenR ?_
 exact WQ.returnsF h [] rfl (results1 rfl rfl) hle22 ⟨rfl, rfl⟩
 have h := ite_f hb26 h
 refine WC.skip ?_
 refine WQ.thenC ?_
 obtain ⟨j27, hj27, h⟩ := bnd h
 refine WC.joinE (fun (_ : Unit) ρ' M' H' => M22.le M' ∧ F = H') j27 ?_ ?_
 have h327 := h
 have h := hj27
 refine Sr ?_
 refine Pm (.string a0) hs22_0 rfl ?_
 refine WL.eff (EO.s2b Tryd.underlying9 Tryd.underlying26 Tryd.underlying5 rfl) rfl ?_
 rintro v30 _ _ - ⟨rfl, c28, rfl, h29⟩
 refine Pu (.int .i64 ((bytesOf a0).length : Int)) (PO.lenS Tryd.underlying26 rfl h29.len) rfl ?_
 refine Pm (.int .i64 0) rfl rfl ?_
 refine Nt ?_
 refine WC.block ?_
 obtain ⟨e31, he31, hK31⟩ := bnd h
 clear h
 refine WC.loop he31 (fun (x32 : Int) ρ' M' H' => M22.le M' ∧ c28 :: F = H' ∧ ρ' 23 = v30 ∧ ρ' 24 = (.int .i64 ((bytesOf a0).length : Int)) ∧ ρ' 25 = (.int .i64 x32)) ?_ ?_
 exact ⟨(IM.le.refl _), rfl, rfl, rfl, rfl⟩
 rintro x32 o31 ρ31 M31 H31 h ⟨hle31, rfl, hs31_23, hs31_24, hs31_25⟩
 unfold f_record_Name_l0 at h
 have h29 := h29.mono hle31
 refine Sr ?_
 refine Pu (.bool (decide (x32 < ((bytesOf a0).length : Int)))) (PO.lss hs31_25 hs31_24) rfl ?_
 refine Nt ?_
 refine WC.seq ?_
 refine WC.cond (b := decide (x32 < ((bytesOf a0).length : Int))) rfl (fun hb33 => ?_) (fun hb33 => ?_)
 have h := ite_t hb33 h
 refine WC.skip ?_
 refine WQ.thenC ?_
 refine WC.seq ?_
 refine WC.block ?_
 refine Sr ?_
 obtain ⟨hg34, h⟩ := grd_i h
 obtain ⟨p35, cs36, hat37, hrc38, hhas39⟩ := h29.at hg34.1 hg34.2
 obtain rfl := hrc38
 refine Pu (.pointer (some p35)) (PO.indexAddr (n := (bytesOf a0).length) Tryd.underlying26 sz5 hs31_23 hs31_25 hg34.1 hg34.2 hat37) rfl ?_
 refine Pu (.int .u8 (rd (bytesOf a0) x32)) (PO.loadC 0 pl5 rfl rfl (chunkHas0 hhas39)) rfl ?_
 refine Pa (.int .u8 (rd (bytesOf a0) x32)) rfl rfl ?_
 refine Nt ?_
 obtain ⟨j43, hj43, h⟩ := bnd h
 refine WC.joinF (fun (p_ : (Bool × Bool)) ρ' M' H' => match p_ with | (x41, x42) => M31.le M' ∧ c28 :: F = H' ∧ ρ' 4 = (.int .u8 (rd (bytesOf a0) x32)) ∧ ρ' 5 = (.bool x41) ∧ ρ' 6 = (.bool x42) ∧ ρ' 23 = v30 ∧ ρ' 24 = (.int .i64 ((bytesOf a0).length : Int)) ∧ ρ' 25 = (.int .i64 x32)) j43 ?_ ?_
 have h343 := h
 have h := hj43
 refine WC.region ?_
 refine Pm (.int .u8 (rd (bytesOf a0) x32)) rfl rfl ?_
 refine Pu (.bool (decide ((97 : Int) ≤ (rd (bytesOf a0) x32)))) (PO.geq rfl rfl) rfl ?_
 refine Pm (.bool (decide ((97 : Int) ≤ (rd (bytesOf a0) x32)))) rfl rfl ?_
 rcases Bool.eq_false_or_eq_true (decide ((97 : Int) ≤ (rd (bytesOf a0) x32))) with hb44 | hb44
 have h := ite_t hb44 h
 refine On 31 rfl rfl hb44 ?_
 refine Pm (.int .u8 (rd (bytesOf a0) x32)) rfl rfl ?_
 refine On 31 rfl rfl hb44 ?_
 refine Pu (.bool (decide ((rd (bytesOf a0) x32) ≤ 122))) (PO.leq rfl rfl) rfl ?_
 refine Pu (.bool (decide ((rd (bytesOf a0) x32) ≤ 122))) (PO.pickT rfl hb44 rfl) rfl ?_
 refine Pm (.int .u8 (rd (bytesOf a0) x32)) rfl rfl ?_
 refine Pu (.bool (decide ((48 : Int) ≤ (rd (bytesOf a0) x32)))) (PO.geq rfl rfl) rfl ?_
 refine Pm (.bool (decide ((48 : Int) ≤ (rd (bytesOf a0) x32)))) rfl rfl ?_
 rcases Bool.eq_false_or_eq_true (decide ((48 : Int) ≤ (rd (bytesOf a0) x32))) with hb45 | hb45
 have h := ite_t hb45 h
 refine On 37 rfl rfl hb45 ?_
 refine Pm (.int .u8 (rd (bytesOf a0) x32)) rfl rfl ?_
 refine On 37 rfl rfl hb45 ?_
 refine Pu (.bool (decide ((rd (bytesOf a0) x32) ≤ 57))) (PO.leq rfl rfl) rfl ?_
 refine Pu (.bool (decide ((rd (bytesOf a0) x32) ≤ 57))) (PO.pickT rfl hb45 rfl) rfl ?_
 refine Pa (.bool (decide ((rd (bytesOf a0) x32) ≤ 122))) rfl rfl ?_
 refine Pa (.bool (decide ((rd (bytesOf a0) x32) ≤ 57))) rfl rfl ?_
 refine WL.nil ?_
 obtain rfl := Option.some.inj h
 refine WQ.thenJ ?_
 exact ⟨(IM.le.refl _), rfl, rfl, rfl, rfl, hs31_23, hs31_24, hs31_25⟩
 have h := ite_f hb45 h
 iterate 2 refine Of 37 rfl rfl hb45 rfl ?_
 refine Pu (.bool false) (PO.pickF rfl hb45 rfl) rfl ?_
 refine Pa (.bool (decide ((rd (bytesOf a0) x32) ≤ 122))) rfl rfl ?_
 refine Pa (.bool false) rfl rfl ?_
 refine WL.nil ?_
 obtain rfl := Option.some.inj h
 refine WQ.thenJ ?_
 exact ⟨(IM.le.refl _), rfl, rfl, rfl, rfl, hs31_23, hs31_24, hs31_25⟩
 have h := ite_f hb44 h
 iterate 2 refine Of 31 rfl rfl hb44 rfl ?_
 refine Pu (.bool false) (PO.pickF rfl hb44 rfl) rfl ?_
 refine Pm (.int .u8 (rd (bytesOf a0) x32)) rfl rfl ?_
 refine Pu (.bool (decide ((48 : Int) ≤ (rd (bytesOf a0) x32)))) (PO.geq rfl rfl) rfl ?_
 refine Pm (.bool (decide ((48 : Int) ≤ (rd (bytesOf a0) x32)))) rfl rfl ?_
 rcases Bool.eq_false_or_eq_true (decide ((48 : Int) ≤ (rd (bytesOf a0) x32))) with hb46 | hb46
 have h := ite_t hb46 h
 refine On 37 rfl rfl hb46 ?_
 refine Pm (.int .u8 (rd (bytesOf a0) x32)) rfl rfl ?_
 refine On 37 rfl rfl hb46 ?_
 refine Pu (.bool (decide ((rd (bytesOf a0) x32) ≤ 57))) (PO.leq rfl rfl) rfl ?_
 refine Pu (.bool (decide ((rd (bytesOf a0) x32) ≤ 57))) (PO.pickT rfl hb46 rfl) rfl ?_
 refine Pa (.bool false) rfl rfl ?_
 refine Pa (.bool (decide ((rd (bytesOf a0) x32) ≤ 57))) rfl rfl ?_
 refine WL.nil ?_
 obtain rfl := Option.some.inj h
 refine WQ.thenJ ?_
 exact ⟨(IM.le.refl _), rfl, rfl, rfl, rfl, hs31_23, hs31_24, hs31_25⟩
 have h := ite_f hb46 h
 iterate 2 refine Of 37 rfl rfl hb46 rfl ?_
 refine Pu (.bool false) (PO.pickF rfl hb46 rfl) rfl ?_
 refine Pa (.bool false) rfl rfl ?_
 refine Pa (.bool false) rfl rfl ?_
 refine WL.nil ?_
 obtain rfl := Option.some.inj h
 refine WQ.thenJ ?_
 exact ⟨(IM.le.refl _), rfl, rfl, rfl, rfl, hs31_23, hs31_24, hs31_25⟩
 obtain ⟨x41, x42⟩ := j43
 rintro ρ43 M43 H43 ⟨hle43, rfl, hs43_4, hs43_5, hs43_6, hs43_23, hs43_24, hs43_25⟩
 have h29 := h29.mono hle43
 obtain ⟨x47, hj48, h⟩ := bnd h
 refine WC.joinF (fun (x47 : Bool) ρ' M' H' => M43.le M' ∧ c28 :: F = H' ∧ ρ' 23 = v30 ∧ ρ' 24 = (.int .i64 ((bytesOf a0).length : Int)) ∧ ρ' 25 = (.int .i64 x32) ∧ ρ' 54 = (.bool x47)) x47 ?_ ?_
 have h348 := h
 have h := hj48
 refine WC.region ?_
 refine Pm (.bool x41) hs43_5 rfl ?_
 refine Pu (.bool (!x41)) (PO.not rfl) rfl ?_
 refine Pm (.bool (!x41)) rfl rfl ?_
 rcases Bool.eq_false_or_eq_true (!x41) with hb49 | hb49
 have h := ite_t hb49 h
 refine On 43 rfl rfl hb49 ?_
 refine Pm (.bool x42) hs43_6 rfl ?_
 refine On 43 rfl rfl hb49 ?_
 refine Pu (.bool (!x42)) (PO.not rfl) rfl ?_
 refine Pu (.bool (!x42)) (PO.pickT rfl hb49 rfl) rfl ?_
 refine Pm (.bool (!x42)) rfl rfl ?_
 rcases Bool.eq_false_or_eq_true (!x42) with hb50 | hb50
 have h := ite_t hb50 h
 refine On 47 rfl rfl hb50 ?_
 refine Pm (.int .u8 (rd (bytesOf a0) x32)) hs43_4 rfl ?_
 refine On 47 rfl rfl hb50 ?_
 refine Pu (.bool (decide ((rd (bytesOf a0) x32) ≠ 46))) (PO.neq rfl rfl) rfl ?_
 refine Pu (.bool (decide ((rd (bytesOf a0) x32) ≠ 46))) (PO.pickT rfl hb50 rfl) rfl ?_
 refine Pm (.bool (decide ((rd (bytesOf a0) x32) ≠ 46))) rfl rfl ?_
 rcases Bool.eq_false_or_eq_true (decide ((rd (bytesOf a0) x32) ≠ 46)) with hb51 | hb51
 have h := ite_t hb51 h
 refine On 51 rfl rfl hb51 ?_
 refine Pm (.int .u8 (rd (bytesOf a0) x32)) hs43_4 rfl ?_
 refine On 51 rfl rfl hb51 ?_
 refine Pu (.bool (decide ((rd (bytesOf a0) x32) ≠ 45))) (PO.neq rfl rfl) rfl ?_
 refine Pu (.bool (decide ((rd (bytesOf a0) x32) ≠ 45))) (PO.pickT rfl hb51 rfl) rfl ?_
 refine WL.nil ?_
 obtain rfl := Option.some.inj h
 refine WQ.thenJ ?_
 exact ⟨(IM.le.refl _), rfl, hs43_23, hs43_24, hs43_25, rfl⟩
 have h := ite_f hb51 h
 iterate 2 refine Of 51 rfl rfl hb51 rfl ?_
 refine Pu (.bool false) (PO.pickF rfl hb51 rfl) rfl ?_
 refine WL.nil ?_
 obtain rfl := Option.some.inj h
 refine WQ.thenJ ?_
 exact ⟨(IM.le.refl _), rfl, hs43_23, hs43_24, hs43_25, rfl⟩
 have h := ite_f hb50 h
 iterate 2 refine Of 47 rfl rfl hb50 rfl ?_
 refine Pu (.bool false) (PO.pickF rfl hb50 rfl) rfl ?_
 refine Pm (.bool false) rfl rfl ?_
 iterate 2 refine Of 51 rfl rfl rfl rfl ?_
 refine Pu (.bool false) (PO.pickF rfl rfl rfl) rfl ?_
 refine WL.nil ?_
 obtain rfl := Option.some.inj h
 refine WQ.thenJ ?_
 exact ⟨(IM.le.refl _), rfl, hs43_23, hs43_24, hs43_25, rfl⟩
 have h := ite_f hb49 h
 iterate 2 refine Of 43 rfl rfl hb49 rfl ?_
 refine Pu (.bool false) (PO.pickF rfl hb49 rfl) rfl ?_
 refine Pm (.bool false) rfl rfl ?_
 iterate 2 refine Of 47 rfl rfl rfl rfl ?_
 refine Pu (.bool false) (PO.pickF rfl rfl rfl) rfl ?_
 refine Pm (.bool false) rfl rfl ?_
 iterate 2 refine Of 51 rfl rfl rfl rfl ?_
 refine Pu (.bool false) (PO.pickF rfl rfl rfl) rfl ?_
 refine WL.nil ?_
 obtain rfl := Option.some.inj h
 refine WQ.thenJ ?_
 exact ⟨(IM.le.refl _), rfl, hs43_23, hs43_24, hs43_25, rfl⟩
 rintro ρ48 M48 H48 ⟨hle48, rfl, hs48_23, hs48_24, hs48_25, hs48_54⟩
 have h29 := h29.mono hle48
 refine WC.cond (b := x47) hs48_54 (fun hb52 => ?_) (fun hb52 => ?_)
 have h := ite_t hb52 h
 refine Sr ?_
 refine Pa (.bool false) rfl rfl ?_
 refine Nt ?_
 refine WC.ret ?_
 refine WQ.blockR ?_
 refine WQ.thenR ?_
 refine WQ.leaveR (Sum.inr ()) (Option.some.inj h).symm (fun heq31 => ?_)
 subst heq31
 have h := (elimR hK31)
 refine WQ.blockR ?_
 refine WQ.thenR ?_
 have h := KK.early h h327
 refine WQ.drop ?_
 exact WQ.returnsF h [] rfl (results1 rfl rfl) (((hle22.trans hle31).trans hle43).trans hle48) ⟨rfl, rfl⟩
 have h := ite_f hb52 h
 refine WC.skip ?_
 refine WQ.blockN ?_
 refine WQ.thenC ?_
 refine WC.region ?_
 refine Pu (.int .i64 (IntKind.i64.wrap (x32 + 1))) (PO.add hs48_25 rfl) rfl ?_
 refine Pm (.int .i64 (IntKind.i64.wrap (x32 + 1))) rfl rfl ?_
 refine WL.nil ?_
 refine WQ.again (IntKind.i64.wrap (x32 + 1)) (Option.some.inj h).symm ?_
 exact ⟨((hle31.trans hle43).trans hle48), rfl, hs48_23, hs48_24, rfl⟩
 have h := ite_f hb33 h
 refine WC.exit ?_
 refine WQ.thenE ?_
 refine WQ.leaveE (Sum.inl ()) (Option.some.inj h).symm (fun heq31 => ?_)
 subst heq31
 have h := elimL hK31
 refine WQ.blockH ?_
 refine WQ.drop ?_
 refine WQ.thenFE h ?_
 exact ⟨hle31, rfl⟩
 rintro _ ρ27 M27 H27 rfl ⟨hle27, rfl⟩
 have h := (Sum.elim_inl _ _ _).symm.trans h
 refine Sr ?_
 refine Pa (.bool true) rfl rfl ?_
 refine Nt ?_
 refine WC.ret ?_
 exact WQ.returnsF h [] rfl (results1 rfl rfl) (hle22.trans hle27) ⟨rfl, rfl⟩

noncomputable def f_record_text_106 (a0 : ByteArray) (a1 : Bool) : Option Bool :=
  (if (!a1) = true then (some (decide (a0 = (⟨#[]⟩ : ByteArray)))) else ((f_record_Name a0).bind fun (r22 : Bool) => (some r22)))
def f_record_text_106_post (a0 : ByteArray) (a1 : Bool) : Bool → Value → IM → HL → Prop :=
  fun (r0 : Bool) (v : Value) (M' : IM) (H' : HL) => (.bool r0) = v ∧ H' = []
theorem f_record_text_106_ok (a0 : ByteArray) (a1 : Bool) (M : IM) (res : Bool) (h : f_record_text_106 a0 a1 = some res) :
    Tri Tryd.prog 105 #[(.string a0), (.bool a1), (.func (.func 106) #[] #[])] M [] (f_record_text_106_post a0 a1 res) := by
 unfold f_record_text_106 at h
 refine Tri.enter (fn := Tryd.f105) Tryd.func105 rfl (Nat.le_of_ble_eq_true rfl) ?_
 intro F ρ hρ
 refine Sr ?_
 refine Pa (.bool false) rfl rfl ?_
 refine Nt ?_
 refine WC.seq ?_
 refine Sr ?_
 refine Pm (.bool a1) (hρ 1) rfl ?_
 refine Pu (.bool (!a1)) (PO.not rfl) rfl ?_
 refine Nt ?_
 refine WC.cond (b := !a1) rfl (fun hb21 => ?_) (fun hb21 => ?_)
 have h := ite_t hb21 h
 refine Sr ?_
 refine Pm (.string a0) (hρ 0) rfl ?_
 refine Pu (.bool (decide (a0 = (⟨#[]⟩ : ByteArray)))) (PO.seql rfl rfl) rfl ?_
 refine Pa (.bool (decide (a0 = (⟨#[]⟩ : ByteArray)))) rfl rfl ?_
 refine Nt ?_
 refine WC.ret ?_
 refine WQ.thenR ?_
 exact WQ.returnsF h [] rfl (results1 rfl rfl) (IM.le.refl _) ⟨rfl, rfl⟩
 have h := ite_f hb21 h
 refine WC.skip ?_
 refine WQ.thenC ?_
 refine Sr ?_
 refine Pm (.func (.func 106) #[] #[]) (hρ 2) rfl ?_
 refine Pm (.string a0) (hρ 0) rfl ?_
 obtain ⟨r22, hr23, h⟩ := bnd h
 refine WL.eff (EO.callV0 (first := #[]) (cap := #[]) co106 rfl (f_record_Name_ok a0 _ r22 hr23) (argsV1 rfl rfl)) rfl ?_
 rintro _ M24 _ hle25 ⟨_, ⟨rfl, rfl⟩, rfl⟩
 refine WL.a0 ?_
 refine Pa (.bool r22) rfl rfl ?_
 refine Nt ?_
 refine WC.ret ?_
 exact WQ.returnsF h [] rfl (results1 rfl rfl) hle25 ⟨rfl, rfl⟩

noncomputable def f_record_Check_2 (a0 : ByteArray) : Option Bool :=
  (some (decide ((a0.size : Int) ≤ (256 : Int))))
def f_record_Check_2_post (a0 : ByteArray) : Bool → Value → IM → HL → Prop :=
  fun (r0 : Bool) (v : Value) (M' : IM) (H' : HL) => (.bool r0) = v ∧ H' = []
theorem f_record_Check_2_ok (a0 : ByteArray) (M : IM) (res : Bool) (h : f_record_Check_2 a0 = some res) :
    Tri Tryd.prog 103 #[(.string a0)] M [] (f_record_Check_2_post a0 res) := by
 unfold f_record_Check_2 at h
 refine Tri.enter (fn := Tryd.f103) Tryd.func103 rfl (Nat.le_of_ble_eq_true rfl) ?_
 intro F ρ hρ
 refine Sr ?_
 refine Pa (.bool false) rfl rfl ?_
 refine Ns ?_
 refine Pm (.string a0) (hρ 0) rfl ?_
 refine Pu (.int .i64 (a0.size : Int)) (PO.lenStr Tryd.underlying9 rfl) rfl ?_
 refine Pu (.bool (decide ((a0.size : Int) ≤ (256 : Int)))) (PO.leq rfl rfl) rfl ?_
 refine Pa (.bool (decide ((a0.size : Int) ≤ (256 : Int)))) rfl rfl ?_
 refine Nt ?_
 refine WC.ret ?_
 exact WQ.returnsF h [] rfl (results1 rfl rfl) (IM.le.refl _) ⟨rfl, rfl⟩

noncomputable def f_record_text_103 (a0 : ByteArray) (a1 : Bool) : Option Bool :=
  (if (!a1) = true then (some (decide (a0 = (⟨#[]⟩ : ByteArray)))) else ((f_record_Check_2 a0).bind fun (r22 : Bool) => (some r22)))
def f_record_text_103_post (a0 : ByteArray) (a1 : Bool) : Bool → Value → IM → HL → Prop :=
  fun (r0 : Bool) (v : Value) (M' : IM) (H' : HL) => (.bool r0) = v ∧ H' = []
theorem f_record_text_103_ok (a0 : ByteArray) (a1 : Bool) (M : IM) (res : Bool) (h : f_record_text_103 a0 a1 = some res) :
    Tri Tryd.prog 105 #[(.string a0), (.bool a1), (.func (.func 103) #[] #[])] M [] (f_record_text_103_post a0 a1 res) := by
 unfold f_record_text_103 at h
 refine Tri.enter (fn := Tryd.f105) Tryd.func105 rfl (Nat.le_of_ble_eq_true rfl) ?_
 intro F ρ hρ
 refine Sr ?_
 refine Pa (.bool false) rfl rfl ?_
 refine Nt ?_
 refine WC.seq ?_
 refine Sr ?_
 refine Pm (.bool a1) (hρ 1) rfl ?_
 refine Pu (.bool (!a1)) (PO.not rfl) rfl ?_
 refine Nt ?_
 refine WC.cond (b := !a1) rfl (fun hb21 => ?_) (fun hb21 => ?_)
 have h := ite_t hb21 h
 refine Sr ?_
 refine Pm (.string a0) (hρ 0) rfl ?_
 refine Pu (.bool (decide (a0 = (⟨#[]⟩ : ByteArray)))) (PO.seql rfl rfl) rfl ?_
 refine Pa (.bool (decide (a0 = (⟨#[]⟩ : ByteArray)))) rfl rfl ?_
 refine Nt ?_
 refine WC.ret ?_
 refine WQ.thenR ?_
 exact WQ.returnsF h [] rfl (results1 rfl rfl) (IM.le.refl _) ⟨rfl, rfl⟩
 have h := ite_f hb21 h
 refine WC.skip ?_
 refine WQ.thenC ?_
 refine Sr ?_
 refine Pm (.func (.func 103) #[] #[]) (hρ 2) rfl ?_
 refine Pm (.string a0) (hρ 0) rfl ?_
 obtain ⟨r22, hr23, h⟩ := bnd h
 refine WL.eff (EO.callV0 (first := #[]) (cap := #[]) co103 rfl (f_record_Check_2_ok a0 _ r22 hr23) (argsV1 rfl rfl)) rfl ?_
 rintro _ M24 _ hle25 ⟨_, ⟨rfl, rfl⟩, rfl⟩
 refine WL.a0 ?_
 refine Pa (.bool r22) rfl rfl ?_
 refine Nt ?_
 refine WC.ret ?_
 exact WQ.returnsF h [] rfl (results1 rfl rfl) hle25 ⟨rfl, rfl⟩

noncomputable def f_slices_Index_int_int_l0 (a0 : (List Int)) (a1 : Int) (s_ : Int) : Option (Int ⊕ (Unit ⊕ Int)) :=
  match s_ with
  | x23 =>
    (if (decide (x23 < (a0.length : Int))) = true then (grd (0 ≤ x23 ∧ x23 < a0.length) (if (decide (a1 = (rd a0 x23))) = true then (some (Sum.inr (Sum.inr x23))) else (some (Sum.inl (IntKind.i64.wrap (x23 + (1 : Int))))))) else (some (Sum.inr (Sum.inl ()))))
noncomputable def f_slices_Index_int_int (a0 : (List Int)) (a1 : Int) : Option Int :=
  ((((iter (f_slices_Index_int_int_l0 a0 a1) (0 : Int)).bind (Sum.elim (fun _ => (some (Sum.inl ()))) (fun (x24 : Int) => (((some x24)).bind fun r => some (Sum.inr r))))) : Option (Unit ⊕ Int)).bind (Sum.elim (fun _ => (some (-1 : Int))) some))
def f_slices_Index_int_int_post (a0 : (List Int)) (a1 : Int) (v0 : Value) : Int → Value → IM → HL → Prop :=
  fun (r0 : Int) (v : Value) (M' : IM) (H' : HL) => (.int .i64 r0) = v ∧ H' = []
theorem f_slices_Index_int_int_ok (a0 : (List Int)) (a1 : Int) (M : IM) (v0 : Value) (h0 : RS (Kd.int .i64) M v0 a0) (res : Int) (h : f_slices_Index_int_int a0 a1 = some res) :
    Tri Tryd.prog 119 #[v0, (.int .i64 a1)] M [] (f_slices_Index_int_int_post a0 a1 v0 res) := by
 unfold f_slices_Index_int_int at h
 refine Tri.enter (fn := Tryd.f119) Tryd.func119 rfl (Nat.le_of_ble_eq_true rfl) ?_
 intro F ρ hρ
 refine Sr ?_
 refine Pa (.int .i64 0) rfl rfl ?_
 refine Nt ?_
 obtain ⟨j21, hj21, h⟩ := bnd h
 refine WC.joinE (fun (_ : Unit) ρ' M' H' => M.le M' ∧ F = H') j21 ?_ ?_
 have h321 := h
 have h := hj21
 refine Sr ?_
 refine Pm v0 (hρ 0) rfl ?_
 refine Pu (.int .i64 (a0.length : Int)) (PO.lenS Tryd.underlying95 rfl h0.len) rfl ?_
 refine Pm (.int .i64 0) rfl rfl ?_
 refine Nt ?_
 refine WC.block ?_
 obtain ⟨e22, he22, hK22⟩ := bnd h
 clear h
 refine WC.loop he22 (fun (x23 : Int) ρ' M' H' => M.le M' ∧ F = H' ∧ ρ' 0 = v0 ∧ ρ' 1 = (.int .i64 a1) ∧ ρ' 7 = (.int .i64 (a0.length : Int)) ∧ ρ' 8 = (.int .i64 x23)) ?_ ?_
 exact ⟨(IM.le.refl _), rfl, (hρ 0), (hρ 1), rfl, rfl⟩
 rintro x23 o22 ρ22 M22 H22 h ⟨hle22, rfl, hs22_0, hs22_1, hs22_7, hs22_8⟩
 unfold f_slices_Index_int_int_l0 at h
 have h0 := h0.mono hle22
 refine Sr ?_
 refine Pu (.bool (decide (x23 < (a0.length : Int)))) (PO.lss hs22_8 hs22_7) rfl ?_
 refine Nt ?_
 refine WC.seq ?_
 refine WC.cond (b := decide (x23 < (a0.length : Int))) rfl (fun hb25 => ?_) (fun hb25 => ?_)
 have h := ite_t hb25 h
 refine WC.skip ?_
 refine WQ.thenC ?_
 refine WC.seq ?_
 refine WC.block ?_
 refine Sr ?_
 refine Pm (.int .i64 x23) hs22_8 rfl ?_
 refine Pa (.int .i64 x23) rfl rfl ?_
 refine Ns ?_
 refine Pm (.int .i64 a1) hs22_1 rfl ?_
 refine Pm v0 hs22_0 rfl ?_
 refine Pm (.int .i64 x23) rfl rfl ?_
 obtain ⟨hg26, h⟩ := grd_i h
 obtain ⟨p27, cs28, hat29, hrc30, hhas31⟩ := h0.at hg26.1 hg26.2 (by decide)
 obtain rfl := hrc30
 refine Pu (.pointer (some p27)) (PO.indexAddr (n := a0.length) Tryd.underlying95 sz3 rfl rfl hg26.1 hg26.2 hat29) rfl ?_
 refine Pu (.int .i64 (rd a0 x23)) (PO.loadM pl3 rfl (IM.has0 hhas31)) rfl ?_
 refine Pu (.bool (decide (a1 = (rd a0 x23)))) (PO.eql rfl rfl) rfl ?_
 refine Nt ?_
 refine WC.cond (b := decide (a1 = (rd a0 x23))) rfl (fun hb33 => ?_) (fun hb33 => ?_)
 have h := ite_t hb33 h
 refine Sr ?_
 refine Pm (.int .i64 x23) rfl rfl ?_
 refine Pa (.int .i64 x23) rfl rfl ?_
 refine Nt ?_
 refine WC.ret ?_
 refine WQ.blockR ?_
 refine WQ.thenR ?_
 refine WQ.leaveR (Sum.inr x23) (Option.some.inj h).symm (fun heq22 => ?_)
 subst heq22
 have h := (elimR hK22)
 refine WQ.blockR ?_
 refine WQ.thenR ?_
 have h := KK.early h h321
 exact WQ.returnsF h [] rfl (results1 rfl rfl) hle22 ⟨rfl, rfl⟩
 have h := ite_f hb33 h
 refine WC.skip ?_
 refine WQ.blockN ?_
 refine WQ.thenC ?_
 refine WC.region ?_
 refine Pu (.int .i64 (IntKind.i64.wrap (x23 + 1))) (PO.add hs22_8 rfl) rfl ?_
 refine Pm (.int .i64 (IntKind.i64.wrap (x23 + 1))) rfl rfl ?_
 refine WL.nil ?_
 refine WQ.again (IntKind.i64.wrap (x23 + 1)) (Option.some.inj h).symm ?_
 exact ⟨hle22, rfl, hs22_0, hs22_1, hs22_7, rfl⟩
 have h := ite_f hb25 h
 refine WC.exit ?_
 refine WQ.thenE ?_
 refine WQ.leaveE (Sum.inl ()) (Option.some.inj h).symm (fun heq22 => ?_)
 subst heq22
 have h := elimL hK22
 refine WQ.blockH ?_
 refine WQ.thenFE h ?_
 exact ⟨hle22, rfl⟩
 rintro _ ρ21 M21 H21 rfl ⟨hle21, rfl⟩
 have h := (Sum.elim_inl _ _ _).symm.trans h
 refine Sr ?_
 refine Pa (.int .i64 (-1 : Int)) rfl rfl ?_
 refine Nt ?_
 refine WC.ret ?_
 exact WQ.returnsF h [] rfl (results1 rfl rfl) hle21 ⟨rfl, rfl⟩

noncomputable def f_slices_Contains_int_int (a0 : (List Int)) (a1 : Int) : Option Bool :=
  ((f_slices_Index_int_int a0 a1).bind fun (r21 : Int) => (some (decide ((0 : Int) ≤ r21))))
def f_slices_Contains_int_int_post (a0 : (List Int)) (a1 : Int) (v0 : Value) : Bool → Value → IM → HL → Prop :=
  fun (r0 : Bool) (v : Value) (M' : IM) (H' : HL) => (.bool r0) = v ∧ H' = []
theorem f_slices_Contains_int_int_ok (a0 : (List Int)) (a1 : Int) (M : IM) (v0 : Value) (h0 : RS (Kd.int .i64) M v0 a0) (res : Bool) (h : f_slices_Contains_int_int a0 a1 = some res) :
    Tri Tryd.prog 118 #[v0, (.int .i64 a1)] M [] (f_slices_Contains_int_int_post a0 a1 v0 res) := by
 unfold f_slices_Contains_int_int at h
 refine Tri.enter (fn := Tryd.f118) Tryd.func118 rfl (Nat.le_of_ble_eq_true rfl) ?_
 intro F ρ hρ
 refine Sr ?_
 refine Pa (.bool false) rfl rfl ?_
 refine Ns ?_
 refine Pm v0 (hρ 0) rfl ?_
 refine Pm (.int .i64 a1) (hρ 1) rfl ?_
 obtain ⟨r21, hr22, h⟩ := bnd h
 refine WL.eff (EO.call0 co119 (f_slices_Index_int_int_ok a0 a1 _ _ h0 r21 hr22) (args2 rfl rfl)) rfl ?_
 rintro _ M23 _ hle24 ⟨_, ⟨rfl, rfl⟩, rfl⟩
 have h0 := h0.mono hle24
 refine WL.a0 ?_
 refine Pu (.bool (decide ((0 : Int) ≤ r21))) (PO.geq rfl rfl) rfl ?_
 refine Pa (.bool (decide ((0 : Int) ≤ r21))) rfl rfl ?_
 refine Nt ?_
 refine WC.ret ?_
 exact WQ.returnsF h [] rfl (results1 rfl rfl) hle24 ⟨rfl, rfl⟩

noncomputable def f_record_Brokers_l0 (a0 : (List Int)) (s_ : Int) : Option (Int ⊕ (Unit ⊕ Unit)) :=
  match s_ with
  | x24 =>
    (if (decide (x24 < (a0.length : Int))) = true then (grd (0 ≤ x24 ∧ x24 < a0.length) (((if (decide ((rd a0 x24) < (1 : Int))) = true then (some true) else (if (decide ((64 : Int) < (rd a0 x24))) = true then (some true) else (grd (0 ≤ (0 : Int) ∧ (0 : Int) ≤ x24 ∧ x24 ≤ (a0.length : Int)) ((f_slices_Contains_int_int (sub a0 (0 : Int) x24) (rd a0 x24)).bind fun (r39 : Bool) => (some r39))))) : Option Bool).bind fun (x33 : Bool) => (if x33 = true then (some (Sum.inr (Sum.inr ()))) else (some (Sum.inl (IntKind.i64.wrap (x24 + (1 : Int)))))))) else (some (Sum.inr (Sum.inl ()))))
noncomputable def f_record_Brokers (a0 : (List Int)) : Option Bool :=
  (if (decide ((7 : Int) < (a0.length : Int))) = true then (some false) else ((((iter (f_record_Brokers_l0 a0) (0 : Int)).bind (Sum.elim (fun _ => (some (Sum.inl ()))) (fun _ => (((some false)).bind fun r => some (Sum.inr r))))) : Option (Unit ⊕ Bool)).bind (Sum.elim (fun _ => (some true)) some)))
def f_record_Brokers_post (a0 : (List Int)) (v0 : Value) : Bool → Value → IM → HL → Prop :=
  fun (r0 : Bool) (v : Value) (M' : IM) (H' : HL) => (.bool r0) = v ∧ H' = []
theorem f_record_Brokers_ok (a0 : (List Int)) (M : IM) (v0 : Value) (h0 : RS (Kd.int .i64) M v0 a0) (res : Bool) (h : f_record_Brokers a0 = some res) :
    Tri Tryd.prog 116 #[v0] M [] (f_record_Brokers_post a0 v0 res) := by
 unfold f_record_Brokers at h
 refine Tri.enter (fn := Tryd.f116) Tryd.func116 rfl (Nat.le_of_ble_eq_true rfl) ?_
 intro F ρ hρ
 refine Sr ?_
 refine Pa (.bool false) rfl rfl ?_
 refine Nt ?_
 refine WC.seq ?_
 refine Sr ?_
 refine Pm v0 (hρ 0) rfl ?_
 refine Pu (.int .i64 (a0.length : Int)) (PO.lenS Tryd.underlying95 rfl h0.len) rfl ?_
 refine Pu (.bool (decide ((7 : Int) < (a0.length : Int)))) (PO.gtr rfl rfl) rfl ?_
 refine Nt ?_
 refine WC.cond (b := decide ((7 : Int) < (a0.length : Int))) rfl (fun hb21 => ?_) (fun hb21 => ?_)
 have h := ite_t hb21 h
 refine Sr ?_
 refine Pa (.bool false) rfl rfl ?_
 refine Nt ?_
 refine WC.ret ?_
 refine WQ.thenR ?_
 exact WQ.returnsF h [] rfl (results1 rfl rfl) (IM.le.refl _) ⟨rfl, rfl⟩
 have h := ite_f hb21 h
 refine WC.skip ?_
 refine WQ.thenC ?_
 obtain ⟨j22, hj22, h⟩ := bnd h
 refine WC.joinE (fun (_ : Unit) ρ' M' H' => M.le M' ∧ F = H') j22 ?_ ?_
 have h322 := h
 have h := hj22
 refine Sr ?_
 refine Pm v0 (hρ 0) rfl ?_
 refine Pu (.int .i64 (a0.length : Int)) (PO.lenS Tryd.underlying95 rfl h0.len) rfl ?_
 refine Pm (.int .i64 0) rfl rfl ?_
 refine Nt ?_
 refine WC.block ?_
 obtain ⟨e23, he23, hK23⟩ := bnd h
 clear h
 refine WC.loop he23 (fun (x24 : Int) ρ' M' H' => M.le M' ∧ F = H' ∧ ρ' 0 = v0 ∧ ρ' 8 = v0 ∧ ρ' 9 = (.int .i64 (a0.length : Int)) ∧ ρ' 10 = (.int .i64 x24)) ?_ ?_
 exact ⟨(IM.le.refl _), rfl, (hρ 0), rfl, rfl, rfl⟩
 rintro x24 o23 ρ23 M23 H23 h ⟨hle23, rfl, hs23_0, hs23_8, hs23_9, hs23_10⟩
 unfold f_record_Brokers_l0 at h
 have h0 := h0.mono hle23
 refine Sr ?_
 refine Pu (.bool (decide (x24 < (a0.length : Int)))) (PO.lss hs23_10 hs23_9) rfl ?_
 refine Nt ?_
 refine WC.seq ?_
 refine WC.cond (b := decide (x24 < (a0.length : Int))) rfl (fun hb25 => ?_) (fun hb25 => ?_)
 have h := ite_t hb25 h
 refine WC.skip ?_
 refine WQ.thenC ?_
 refine WC.seq ?_
 refine WC.block ?_
 refine Sr ?_
 refine Pm (.int .i64 x24) hs23_10 rfl ?_
 obtain ⟨hg26, h⟩ := grd_i h
 obtain ⟨p27, cs28, hat29, hrc30, hhas31⟩ := h0.at hg26.1 hg26.2 (by decide)
 obtain rfl := hrc30
 refine Pu (.pointer (some p27)) (PO.indexAddr (n := a0.length) Tryd.underlying95 sz3 hs23_8 hs23_10 hg26.1 hg26.2 hat29) rfl ?_
 refine Pu (.int .i64 (rd a0 x24)) (PO.loadM pl3 rfl (IM.has0 hhas31)) rfl ?_
 refine Pa (.int .i64 x24) rfl rfl ?_
 refine Pa (.int .i64 (rd a0 x24)) rfl rfl ?_
 refine Nt ?_
 obtain ⟨x33, hj34, h⟩ := bnd h
 refine WC.joinF (fun (x33 : Bool) ρ' M' H' => M23.le M' ∧ F = H' ∧ ρ' 0 = v0 ∧ ρ' 8 = v0 ∧ ρ' 9 = (.int .i64 (a0.length : Int)) ∧ ρ' 10 = (.int .i64 x24) ∧ ρ' 27 = (.bool x33)) x33 ?_ ?_
 have h334 := h
 have h := hj34
 refine WC.region ?_
 refine Pm (.int .i64 (rd a0 x24)) rfl rfl ?_
 refine Pu (.bool (decide ((rd a0 x24) < 1))) (PO.lss rfl rfl) rfl ?_
 refine Pm (.bool (decide ((rd a0 x24) < 1))) rfl rfl ?_
 rcases Bool.eq_false_or_eq_true (decide ((rd a0 x24) < 1)) with hb35 | hb35
 have h := ite_t hb35 h
 iterate 2 refine Of 17 rfl rfl hb35 rfl ?_
 refine Pu (.bool true) (PO.pickT rfl hb35 rfl) rfl ?_
 refine Pm (.bool true) rfl rfl ?_
 iterate 5 refine Of 21 rfl rfl rfl rfl ?_
 refine Pu (.bool true) (PO.pickT rfl rfl rfl) rfl ?_
 refine WL.nil ?_
 obtain rfl := Option.some.inj h
 refine WQ.thenJ ?_
 exact ⟨(IM.le.refl _), rfl, hs23_0, hs23_8, hs23_9, hs23_10, rfl⟩
 have h := ite_f hb35 h
 refine On 17 rfl rfl hb35 ?_
 refine Pm (.int .i64 (rd a0 x24)) rfl rfl ?_
 refine On 17 rfl rfl hb35 ?_
 refine Pu (.bool (decide ((64 : Int) < (rd a0 x24)))) (PO.gtr rfl rfl) rfl ?_
 refine Pu (.bool (decide ((64 : Int) < (rd a0 x24)))) (PO.pickF rfl hb35 rfl) rfl ?_
 refine Pm (.bool (decide ((64 : Int) < (rd a0 x24)))) rfl rfl ?_
 rcases Bool.eq_false_or_eq_true (decide ((64 : Int) < (rd a0 x24))) with hb36 | hb36
 have h := ite_t hb36 h
 iterate 5 refine Of 21 rfl rfl hb36 rfl ?_
 refine Pu (.bool true) (PO.pickT rfl hb36 rfl) rfl ?_
 refine WL.nil ?_
 obtain rfl := Option.some.inj h
 refine WQ.thenJ ?_
 exact ⟨(IM.le.refl _), rfl, hs23_0, hs23_8, hs23_9, hs23_10, rfl⟩
 have h := ite_f hb36 h
 refine On 21 rfl rfl hb36 ?_
 refine Pm v0 hs23_0 rfl ?_
 refine On 21 rfl rfl hb36 ?_
 refine Pm (.int .i64 x24) rfl rfl ?_
 refine On 21 rfl rfl hb36 ?_
 obtain ⟨hg37, h⟩ := grd_i h
 have h38 := h0.sub hg37.1 hg37.2.1 hg37.2.2
 refine Pu (slV v0 1 ((0 : Int)).toNat (x24).toNat) (PO.slice (n := a0.length) (l := ((0 : Int)).toNat) (h := (x24).toNat) Tryd.underlying95 sz3 rfl h0.len h0.cap (bound0 rfl) ⟨_, _, rfl, (Int.le_trans hg37.1 hg37.2.1), rfl⟩ (Int.toNat_le_toNat hg37.2.1) (toNat_le_len hg37.2.2)) rfl ?_
 refine On 21 rfl rfl hb36 ?_
 refine Pm (.int .i64 (rd a0 x24)) rfl rfl ?_
 refine On 21 rfl rfl hb36 ?_
 obtain ⟨r39, hr40, h⟩ := bnd h
 refine WL.eff (EO.call0 co118 (f_slices_Contains_int_int_ok (sub a0 (0 : Int) x24) (rd a0 x24) _ _ h38 r39 hr40) (args2 rfl rfl)) rfl ?_
 rintro _ M41 _ hle42 ⟨_, ⟨rfl, rfl⟩, rfl⟩
 have h0 := h0.mono hle42
 have h38 := h38.mono hle42
 refine WL.a0 ?_
 refine Pu (.bool r39) (PO.pickF rfl hb36 rfl) rfl ?_
 refine WL.nil ?_
 obtain rfl := Option.some.inj h
 refine WQ.thenJ ?_
 exact ⟨hle42, rfl, hs23_0, hs23_8, hs23_9, hs23_10, rfl⟩
 rintro ρ34 M34 H34 ⟨hle34, rfl, hs34_0, hs34_8, hs34_9, hs34_10, hs34_27⟩
 have h0 := h0.mono hle34
 refine WC.cond (b := x33) hs34_27 (fun hb44 => ?_) (fun hb44 => ?_)
 have h := ite_t hb44 h
 refine Sr ?_
 refine Pa (.bool false) rfl rfl ?_
 refine Nt ?_
 refine WC.ret ?_
 refine WQ.blockR ?_
 refine WQ.thenR ?_
 refine WQ.leaveR (Sum.inr ()) (Option.some.inj h).symm (fun heq23 => ?_)
 subst heq23
 have h := (elimR hK23)
 refine WQ.blockR ?_
 refine WQ.thenR ?_
 have h := KK.early h h322
 exact WQ.returnsF h [] rfl (results1 rfl rfl) (hle23.trans hle34) ⟨rfl, rfl⟩
 have h := ite_f hb44 h
 refine WC.skip ?_
 refine WQ.blockN ?_
 refine WQ.thenC ?_
 refine WC.region ?_
 refine Pu (.int .i64 (IntKind.i64.wrap (x24 + 1))) (PO.add hs34_10 rfl) rfl ?_
 refine Pm (.int .i64 (IntKind.i64.wrap (x24 + 1))) rfl rfl ?_
 refine WL.nil ?_
 refine WQ.again (IntKind.i64.wrap (x24 + 1)) (Option.some.inj h).symm ?_
 exact ⟨(hle23.trans hle34), rfl, hs34_0, hs34_8, hs34_9, rfl⟩
 have h := ite_f hb25 h
 refine WC.exit ?_
 refine WQ.thenE ?_
 refine WQ.leaveE (Sum.inl ()) (Option.some.inj h).symm (fun heq23 => ?_)
 subst heq23
 have h := elimL hK23
 refine WQ.blockH ?_
 refine WQ.thenFE h ?_
 exact ⟨hle23, rfl⟩
 rintro _ ρ22 M22 H22 rfl ⟨hle22, rfl⟩
 have h := (Sum.elim_inl _ _ _).symm.trans h
 refine Sr ?_
 refine Pa (.bool true) rfl rfl ?_
 refine Nt ?_
 refine WC.ret ?_
 exact WQ.returnsF h [] rfl (results1 rfl rfl) hle22 ⟨rfl, rfl⟩

noncomputable def f_record_row (a0 : (List Int)) (a1 : Bool) : Option Bool :=
  (if (!a1) = true then (some (decide ((a0.length : Int) = (0 : Int)))) else ((f_record_Brokers a0).bind fun (r22 : Bool) => (some r22)))
def f_record_row_post (a0 : (List Int)) (a1 : Bool) (v0 : Value) : Bool → Value → IM → HL → Prop :=
  fun (r0 : Bool) (v : Value) (M' : IM) (H' : HL) => (.bool r0) = v ∧ H' = []
theorem f_record_row_ok (a0 : (List Int)) (a1 : Bool) (M : IM) (v0 : Value) (h0 : RS (Kd.int .i64) M v0 a0) (res : Bool) (h : f_record_row a0 a1 = some res) :
    Tri Tryd.prog 107 #[v0, (.bool a1)] M [] (f_record_row_post a0 a1 v0 res) := by
 unfold f_record_row at h
 refine Tri.enter (fn := Tryd.f107) Tryd.func107 rfl (Nat.le_of_ble_eq_true rfl) ?_
 intro F ρ hρ
 refine Sr ?_
 refine Pa (.bool false) rfl rfl ?_
 refine Nt ?_
 refine WC.seq ?_
 refine Sr ?_
 refine Pm (.bool a1) (hρ 1) rfl ?_
 refine Pu (.bool (!a1)) (PO.not rfl) rfl ?_
 refine Nt ?_
 refine WC.cond (b := !a1) rfl (fun hb21 => ?_) (fun hb21 => ?_)
 have h := ite_t hb21 h
 refine Sr ?_
 refine Pm v0 (hρ 0) rfl ?_
 refine Pu (.int .i64 (a0.length : Int)) (PO.lenS Tryd.underlying95 rfl h0.len) rfl ?_
 refine Pu (.bool (decide ((a0.length : Int) = (0 : Int)))) (PO.eql rfl rfl) rfl ?_
 refine Pa (.bool (decide ((a0.length : Int) = (0 : Int)))) rfl rfl ?_
 refine Nt ?_
 refine WC.ret ?_
 refine WQ.thenR ?_
 exact WQ.returnsF h [] rfl (results1 rfl rfl) (IM.le.refl _) ⟨rfl, rfl⟩
 have h := ite_f hb21 h
 refine WC.skip ?_
 refine WQ.thenC ?_
 refine Sr ?_
 refine Pm v0 (hρ 0) rfl ?_
 obtain ⟨r22, hr23, h⟩ := bnd h
 refine WL.eff (EO.call0 co116 (f_record_Brokers_ok a0 _ _ h0 r22 hr23) (args1 rfl)) rfl ?_
 rintro _ M24 _ hle25 ⟨_, ⟨rfl, rfl⟩, rfl⟩
 have h0 := h0.mono hle25
 refine WL.a0 ?_
 refine Pa (.bool r22) rfl rfl ?_
 refine Nt ?_
 refine WC.ret ?_
 exact WQ.returnsF h [] rfl (results1 rfl rfl) hle25 ⟨rfl, rfl⟩


end Go.Proofs.YtjiffdgidodebaaDoor.G
