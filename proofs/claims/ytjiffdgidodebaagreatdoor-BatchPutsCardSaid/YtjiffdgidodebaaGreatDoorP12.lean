/- Go functions: what they come to, and that they do. Printed by a program of the session (gen). -/
import Derived.Test.YtjiffdgidodebaaGreatDoorPF
import Derived.Test.YtjiffdgidodebaaGreatDoorP11
import Derived.Test.YtjiffdgidodebaaGreatDoorKShar2
import Derived.Test.YtjiffdgidodebaaGreatDoorKConv
set_option linter.unusedVariables false
set_option linter.unusedSimpArgs false
set_option maxHeartbeats 8000000
set_option maxRecDepth 100000
namespace Go.Proofs.YtjiffdgidodebaaGreatDoor.G
open Go Go.KK

noncomputable def f_ref05_Name_l0 (a0 : ByteArray) (s_ : Int) : Option (Int ⊕ (Unit ⊕ Unit)) :=
  match s_ with
  | x29 =>
    (if (decide (x29 < (a0.size : Int))) = true then (grd (0 ≤ x29 ∧ x29 < a0.size) (((if (decide ((97 : Int) ≤ (btAt a0 x29))) = true then (if (decide ((btAt a0 x29) ≤ (122 : Int))) = true then (some true) else (if (decide ((48 : Int) ≤ (btAt a0 x29))) = true then (if (decide ((btAt a0 x29) ≤ (57 : Int))) = true then (some true) else (if (decide ((btAt a0 x29) = (46 : Int))) = true then (some true) else (some (decide ((btAt a0 x29) = (45 : Int)))))) else (if (decide ((btAt a0 x29) = (46 : Int))) = true then (some true) else (some (decide ((btAt a0 x29) = (45 : Int))))))) else (if (decide ((48 : Int) ≤ (btAt a0 x29))) = true then (if (decide ((btAt a0 x29) ≤ (57 : Int))) = true then (some true) else (if (decide ((btAt a0 x29) = (46 : Int))) = true then (some true) else (some (decide ((btAt a0 x29) = (45 : Int)))))) else (if (decide ((btAt a0 x29) = (46 : Int))) = true then (some true) else (some (decide ((btAt a0 x29) = (45 : Int))))))) : Option Bool).bind fun (x33 : Bool) => (if (!x33) = true then (some (Sum.inr (Sum.inr ()))) else (some (Sum.inl (IntKind.i64.wrap (x29 + (1 : Int)))))))) else (some (Sum.inr (Sum.inl ()))))
noncomputable def f_ref05_Name (a0 : ByteArray) : Option Bool :=
  (((if (decide ((a0.size : Int) < (1 : Int))) = true then (some true) else (if (decide ((40 : Int) < (a0.size : Int))) = true then (some true) else (if (decide (a0 = (⟨#[46]⟩ : ByteArray))) = true then (some true) else (some (decide (a0 = (⟨#[46, 46]⟩ : ByteArray))))))) : Option Bool).bind fun (x21 : Bool) => (if x21 = true then (some false) else ((((iter (f_ref05_Name_l0 a0) (0 : Int)).bind (Sum.elim (fun _ => (some (Sum.inl ()))) (fun _ => (((some false)).bind fun r => some (Sum.inr r))))) : Option (Unit ⊕ Bool)).bind (Sum.elim (fun _ => (some true)) some))))
def f_ref05_Name_post (a0 : ByteArray) : Bool → Value → IM → HL → Prop :=
  fun (r0 : Bool) (v : Value) (M' : IM) (H' : HL) => (.bool r0) = v ∧ H' = []
theorem f_ref05_Name_ok (a0 : ByteArray) (M : IM) (res : Bool) (h : f_ref05_Name a0 = some res) :
    Tri Tryz.prog 100 #[(.string a0)] M [] (f_ref05_Name_post a0 res) := by
 unfold f_ref05_Name at h
 refine Tri.enter (fn := Tryz.f100) Tryz.func100 rfl (Nat.le_of_ble_eq_true rfl) ?_
 intro F ρ hρ
 refine Sr ?_
 refine Pa (.bool false) rfl rfl ?_
 refine Nt ?_
 refine WC.seq ?_
 obtain ⟨x21, hj22, h⟩ := bnd h
 refine WC.joinF (fun (x21 : Bool) ρ' M' H' => M.le M' ∧ F = H' ∧ ρ' 0 = (.string a0) ∧ ρ' 21 = (.bool x21)) x21 ?_ ?_
 have h322 := h
 have h := hj22
 refine WC.region ?_
 refine Pm (.string a0) (hρ 0) rfl ?_
 refine Pu (.int .i64 (a0.size : Int)) (PO.lenStr Tryz.underlying9 rfl) rfl ?_
 refine Pu (.bool (decide ((a0.size : Int) < (1 : Int)))) (PO.lss rfl rfl) rfl ?_
 refine Pm (.bool (decide ((a0.size : Int) < (1 : Int)))) rfl rfl ?_
 rcases Bool.eq_false_or_eq_true (decide ((a0.size : Int) < (1 : Int))) with hb23 | hb23
 have h := ite_t hb23 h
 iterate 3 refine Of 9 rfl rfl hb23 rfl ?_
 refine Pu (.bool true) (PO.pickT rfl hb23 rfl) rfl ?_
 refine Pm (.bool true) rfl rfl ?_
 iterate 2 refine Of 14 rfl rfl rfl rfl ?_
 refine Pu (.bool true) (PO.pickT rfl rfl rfl) rfl ?_
 refine Pm (.bool true) rfl rfl ?_
 iterate 2 refine Of 18 rfl rfl rfl rfl ?_
 refine Pu (.bool true) (PO.pickT rfl rfl rfl) rfl ?_
 refine WL.nil ?_
 obtain rfl := Option.some.inj h
 refine WQ.thenJ ?_
 exact ⟨(IM.le.refl _), rfl, (hρ 0), rfl⟩
 have h := ite_f hb23 h
 refine On 9 rfl rfl hb23 ?_
 refine Pm (.string a0) (hρ 0) rfl ?_
 refine On 9 rfl rfl hb23 ?_
 refine Pu (.int .i64 (a0.size : Int)) (PO.lenStr Tryz.underlying9 rfl) rfl ?_
 refine On 9 rfl rfl hb23 ?_
 refine Pu (.bool (decide ((40 : Int) < (a0.size : Int)))) (PO.gtr rfl rfl) rfl ?_
 refine Pu (.bool (decide ((40 : Int) < (a0.size : Int)))) (PO.pickF rfl hb23 rfl) rfl ?_
 refine Pm (.bool (decide ((40 : Int) < (a0.size : Int)))) rfl rfl ?_
 rcases Bool.eq_false_or_eq_true (decide ((40 : Int) < (a0.size : Int))) with hb24 | hb24
 have h := ite_t hb24 h
 iterate 2 refine Of 14 rfl rfl hb24 rfl ?_
 refine Pu (.bool true) (PO.pickT rfl hb24 rfl) rfl ?_
 refine Pm (.bool true) rfl rfl ?_
 iterate 2 refine Of 18 rfl rfl rfl rfl ?_
 refine Pu (.bool true) (PO.pickT rfl rfl rfl) rfl ?_
 refine WL.nil ?_
 obtain rfl := Option.some.inj h
 refine WQ.thenJ ?_
 exact ⟨(IM.le.refl _), rfl, (hρ 0), rfl⟩
 have h := ite_f hb24 h
 refine On 14 rfl rfl hb24 ?_
 refine Pm (.string a0) (hρ 0) rfl ?_
 refine On 14 rfl rfl hb24 ?_
 refine Pu (.bool (decide (a0 = (⟨#[46]⟩ : ByteArray)))) (PO.seql rfl rfl) rfl ?_
 refine Pu (.bool (decide (a0 = (⟨#[46]⟩ : ByteArray)))) (PO.pickF rfl hb24 rfl) rfl ?_
 refine Pm (.bool (decide (a0 = (⟨#[46]⟩ : ByteArray)))) rfl rfl ?_
 rcases Bool.eq_false_or_eq_true (decide (a0 = (⟨#[46]⟩ : ByteArray))) with hb25 | hb25
 have h := ite_t hb25 h
 iterate 2 refine Of 18 rfl rfl hb25 rfl ?_
 refine Pu (.bool true) (PO.pickT rfl hb25 rfl) rfl ?_
 refine WL.nil ?_
 obtain rfl := Option.some.inj h
 refine WQ.thenJ ?_
 exact ⟨(IM.le.refl _), rfl, (hρ 0), rfl⟩
 have h := ite_f hb25 h
 refine On 18 rfl rfl hb25 ?_
 refine Pm (.string a0) (hρ 0) rfl ?_
 refine On 18 rfl rfl hb25 ?_
 refine Pu (.bool (decide (a0 = (⟨#[46, 46]⟩ : ByteArray)))) (PO.seql rfl rfl) rfl ?_
 refine Pu (.bool (decide (a0 = (⟨#[46, 46]⟩ : ByteArray)))) (PO.pickF rfl hb25 rfl) rfl ?_
 refine WL.nil ?_
 obtain rfl := Option.some.inj h
 refine WQ.thenJ ?_
 exact ⟨(IM.le.refl _), rfl, (hρ 0), rfl⟩
 rintro ρ22 M22 H22 ⟨hle22, rfl, hs22_0, hs22_21⟩
 refine WC.cond (b := x21) hs22_21 (fun hb26 => ?_) (fun hb26 => ?_)
 have h := ite_t hb26 h
 refine Sr ?_
 refine Pa (.bool false) rfl rfl ?_
 refine Nt ?_
 refine WC.ret ?_
 refine WQ.thenR ?_
 exact WQ.returnsF h [] rfl (results1 rfl rfl) hle22 ⟨rfl, rfl⟩
 have h := ite_f hb26 h
 refine WC.skip ?_
 refine WQ.thenC ?_
 obtain ⟨j27, hj27, h⟩ := bnd h
 refine WC.joinE (fun (_ : Unit) ρ' M' H' => M22.le M' ∧ F = H') j27 ?_ ?_
 have h327 := h
 have h := hj27
 refine Sr ?_
 refine Pa (.int .i64 0) rfl rfl ?_
 refine Nt ?_
 refine WC.block ?_
 obtain ⟨e28, he28, hK28⟩ := bnd h
 clear h
 refine WC.loop he28 (fun (x29 : Int) ρ' M' H' => M22.le M' ∧ F = H' ∧ ρ' 0 = (.string a0) ∧ ρ' 3 = (.int .i64 x29)) ?_ ?_
 exact ⟨(IM.le.refl _), rfl, hs22_0, rfl⟩
 rintro x29 o28 ρ28 M28 H28 h ⟨hle28, rfl, hs28_0, hs28_3⟩
 unfold f_ref05_Name_l0 at h
 refine WC.seq ?_
 refine Sr ?_
 refine Pm (.int .i64 x29) hs28_3 rfl ?_
 refine Pm (.string a0) hs28_0 rfl ?_
 refine Pu (.int .i64 (a0.size : Int)) (PO.lenStr Tryz.underlying9 rfl) rfl ?_
 refine Pu (.bool (decide (x29 < (a0.size : Int)))) (PO.lss rfl rfl) rfl ?_
 refine Nt ?_
 refine WC.cond (b := decide (x29 < (a0.size : Int))) rfl (fun hb30 => ?_) (fun hb30 => ?_)
 have h := ite_t hb30 h
 refine WC.skip ?_
 refine WQ.thenC ?_
 refine WC.seq ?_
 refine WC.block ?_
 refine Sr ?_
 refine Pm (.string a0) hs28_0 rfl ?_
 refine Pm (.int .i64 x29) hs28_3 rfl ?_
 obtain ⟨hg31, h⟩ := grd_i h
 refine Pu (.int .u8 (btAt a0 x29)) (PO.indexStr Tryz.underlying9 rfl rfl hg31.1 (strAt hg31)) rfl ?_
 refine Pa (.int .u8 (btAt a0 x29)) rfl rfl ?_
 refine Nt ?_
 obtain ⟨x33, hj34, h⟩ := bnd h
 refine WC.joinF (fun (x33 : Bool) ρ' M' H' => M28.le M' ∧ F = H' ∧ ρ' 0 = (.string a0) ∧ ρ' 3 = (.int .i64 x29) ∧ ρ' 5 = (.bool x33)) x33 ?_ ?_
 have h334 := h
 have h := hj34
 refine WC.region ?_
 refine Pm (.int .u8 (btAt a0 x29)) rfl rfl ?_
 refine Pu (.bool (decide ((97 : Int) ≤ (btAt a0 x29)))) (PO.geq rfl rfl) rfl ?_
 refine Pm (.bool (decide ((97 : Int) ≤ (btAt a0 x29)))) rfl rfl ?_
 rcases Bool.eq_false_or_eq_true (decide ((97 : Int) ≤ (btAt a0 x29))) with hb35 | hb35
 have h := ite_t hb35 h
 refine On 33 rfl rfl hb35 ?_
 refine Pm (.int .u8 (btAt a0 x29)) rfl rfl ?_
 refine On 33 rfl rfl hb35 ?_
 refine Pu (.bool (decide ((btAt a0 x29) ≤ 122))) (PO.leq rfl rfl) rfl ?_
 refine Pu (.bool (decide ((btAt a0 x29) ≤ 122))) (PO.pickT rfl hb35 rfl) rfl ?_
 refine Pm (.bool (decide ((btAt a0 x29) ≤ 122))) rfl rfl ?_
 rcases Bool.eq_false_or_eq_true (decide ((btAt a0 x29) ≤ 122)) with hb36 | hb36
 have h := ite_t hb36 h
 iterate 3 refine Of 37 rfl rfl hb36 rfl ?_
 refine WL.offU 40 rfl rfl rfl ?_
 refine WL.offU 40 rfl rfl rfl ?_
 refine Of 37 rfl rfl hb36 rfl ?_
 refine Pu (.bool true) (PO.pickT rfl hb36 rfl) rfl ?_
 refine Pm (.bool true) rfl rfl ?_
 iterate 2 refine Of 45 rfl rfl rfl rfl ?_
 refine Pu (.bool true) (PO.pickT rfl rfl rfl) rfl ?_
 refine Pm (.bool true) rfl rfl ?_
 iterate 2 refine Of 49 rfl rfl rfl rfl ?_
 refine Pu (.bool true) (PO.pickT rfl rfl rfl) rfl ?_
 refine Pa (.bool true) rfl rfl ?_
 refine WL.nil ?_
 obtain rfl := Option.some.inj h
 refine WQ.thenJ ?_
 exact ⟨(IM.le.refl _), rfl, hs28_0, hs28_3, rfl⟩
 have h := ite_f hb36 h
 refine On 37 rfl rfl hb36 ?_
 refine Pm (.int .u8 (btAt a0 x29)) rfl rfl ?_
 refine On 37 rfl rfl hb36 ?_
 refine Pu (.bool (decide ((48 : Int) ≤ (btAt a0 x29)))) (PO.geq rfl rfl) rfl ?_
 refine On 37 rfl rfl hb36 ?_
 refine Pm (.bool (decide ((48 : Int) ≤ (btAt a0 x29)))) rfl rfl ?_
 rcases Bool.eq_false_or_eq_true (decide ((48 : Int) ≤ (btAt a0 x29))) with hb37 | hb37
 have h := ite_t hb37 h
 refine On 40 rfl rfl hb37 ?_
 refine Pm (.int .u8 (btAt a0 x29)) rfl rfl ?_
 refine On 40 rfl rfl hb37 ?_
 refine Pu (.bool (decide ((btAt a0 x29) ≤ 57))) (PO.leq rfl rfl) rfl ?_
 refine On 37 rfl rfl hb36 ?_
 refine Pu (.bool (decide ((btAt a0 x29) ≤ 57))) (PO.pickT rfl hb37 rfl) rfl ?_
 refine Pu (.bool (decide ((btAt a0 x29) ≤ 57))) (PO.pickF rfl hb36 rfl) rfl ?_
 refine Pm (.bool (decide ((btAt a0 x29) ≤ 57))) rfl rfl ?_
 rcases Bool.eq_false_or_eq_true (decide ((btAt a0 x29) ≤ 57)) with hb38 | hb38
 have h := ite_t hb38 h
 iterate 2 refine Of 45 rfl rfl hb38 rfl ?_
 refine Pu (.bool true) (PO.pickT rfl hb38 rfl) rfl ?_
 refine Pm (.bool true) rfl rfl ?_
 iterate 2 refine Of 49 rfl rfl rfl rfl ?_
 refine Pu (.bool true) (PO.pickT rfl rfl rfl) rfl ?_
 refine Pa (.bool true) rfl rfl ?_
 refine WL.nil ?_
 obtain rfl := Option.some.inj h
 refine WQ.thenJ ?_
 exact ⟨(IM.le.refl _), rfl, hs28_0, hs28_3, rfl⟩
 have h := ite_f hb38 h
 refine On 45 rfl rfl hb38 ?_
 refine Pm (.int .u8 (btAt a0 x29)) rfl rfl ?_
 refine On 45 rfl rfl hb38 ?_
 refine Pu (.bool (decide ((btAt a0 x29) = 46))) (PO.eql rfl rfl) rfl ?_
 refine Pu (.bool (decide ((btAt a0 x29) = 46))) (PO.pickF rfl hb38 rfl) rfl ?_
 refine Pm (.bool (decide ((btAt a0 x29) = 46))) rfl rfl ?_
 rcases Bool.eq_false_or_eq_true (decide ((btAt a0 x29) = 46)) with hb39 | hb39
 have h := ite_t hb39 h
 iterate 2 refine Of 49 rfl rfl hb39 rfl ?_
 refine Pu (.bool true) (PO.pickT rfl hb39 rfl) rfl ?_
 refine Pa (.bool true) rfl rfl ?_
 refine WL.nil ?_
 obtain rfl := Option.some.inj h
 refine WQ.thenJ ?_
 exact ⟨(IM.le.refl _), rfl, hs28_0, hs28_3, rfl⟩
 have h := ite_f hb39 h
 refine On 49 rfl rfl hb39 ?_
 refine Pm (.int .u8 (btAt a0 x29)) rfl rfl ?_
 refine On 49 rfl rfl hb39 ?_
 refine Pu (.bool (decide ((btAt a0 x29) = 45))) (PO.eql rfl rfl) rfl ?_
 refine Pu (.bool (decide ((btAt a0 x29) = 45))) (PO.pickF rfl hb39 rfl) rfl ?_
 refine Pa (.bool (decide ((btAt a0 x29) = 45))) rfl rfl ?_
 refine WL.nil ?_
 obtain rfl := Option.some.inj h
 refine WQ.thenJ ?_
 exact ⟨(IM.le.refl _), rfl, hs28_0, hs28_3, rfl⟩
 have h := ite_f hb37 h
 iterate 2 refine Of 40 rfl rfl hb37 rfl ?_
 refine On 37 rfl rfl hb36 ?_
 refine Pu (.bool false) (PO.pickF rfl hb37 rfl) rfl ?_
 refine Pu (.bool false) (PO.pickF rfl hb36 rfl) rfl ?_
 refine Pm (.bool false) rfl rfl ?_
 refine On 45 rfl rfl rfl ?_
 refine Pm (.int .u8 (btAt a0 x29)) rfl rfl ?_
 refine On 45 rfl rfl rfl ?_
 refine Pu (.bool (decide ((btAt a0 x29) = 46))) (PO.eql rfl rfl) rfl ?_
 refine Pu (.bool (decide ((btAt a0 x29) = 46))) (PO.pickF rfl rfl rfl) rfl ?_
 refine Pm (.bool (decide ((btAt a0 x29) = 46))) rfl rfl ?_
 rcases Bool.eq_false_or_eq_true (decide ((btAt a0 x29) = 46)) with hb40 | hb40
 have h := ite_t hb40 h
 iterate 2 refine Of 49 rfl rfl hb40 rfl ?_
 refine Pu (.bool true) (PO.pickT rfl hb40 rfl) rfl ?_
 refine Pa (.bool true) rfl rfl ?_
 refine WL.nil ?_
 obtain rfl := Option.some.inj h
 refine WQ.thenJ ?_
 exact ⟨(IM.le.refl _), rfl, hs28_0, hs28_3, rfl⟩
 have h := ite_f hb40 h
 refine On 49 rfl rfl hb40 ?_
 refine Pm (.int .u8 (btAt a0 x29)) rfl rfl ?_
 refine On 49 rfl rfl hb40 ?_
 refine Pu (.bool (decide ((btAt a0 x29) = 45))) (PO.eql rfl rfl) rfl ?_
 refine Pu (.bool (decide ((btAt a0 x29) = 45))) (PO.pickF rfl hb40 rfl) rfl ?_
 refine Pa (.bool (decide ((btAt a0 x29) = 45))) rfl rfl ?_
 refine WL.nil ?_
 obtain rfl := Option.some.inj h
 refine WQ.thenJ ?_
 exact ⟨(IM.le.refl _), rfl, hs28_0, hs28_3, rfl⟩
 have h := ite_f hb35 h
 iterate 2 refine Of 33 rfl rfl hb35 rfl ?_
 refine Pu (.bool false) (PO.pickF rfl hb35 rfl) rfl ?_
 refine Pm (.bool false) rfl rfl ?_
 refine On 37 rfl rfl rfl ?_
 refine Pm (.int .u8 (btAt a0 x29)) rfl rfl ?_
 refine On 37 rfl rfl rfl ?_
 refine Pu (.bool (decide ((48 : Int) ≤ (btAt a0 x29)))) (PO.geq rfl rfl) rfl ?_
 refine On 37 rfl rfl rfl ?_
 refine Pm (.bool (decide ((48 : Int) ≤ (btAt a0 x29)))) rfl rfl ?_
 rcases Bool.eq_false_or_eq_true (decide ((48 : Int) ≤ (btAt a0 x29))) with hb41 | hb41
 have h := ite_t hb41 h
 refine On 40 rfl rfl hb41 ?_
 refine Pm (.int .u8 (btAt a0 x29)) rfl rfl ?_
 refine On 40 rfl rfl hb41 ?_
 refine Pu (.bool (decide ((btAt a0 x29) ≤ 57))) (PO.leq rfl rfl) rfl ?_
 refine On 37 rfl rfl rfl ?_
 refine Pu (.bool (decide ((btAt a0 x29) ≤ 57))) (PO.pickT rfl hb41 rfl) rfl ?_
 refine Pu (.bool (decide ((btAt a0 x29) ≤ 57))) (PO.pickF rfl rfl rfl) rfl ?_
 refine Pm (.bool (decide ((btAt a0 x29) ≤ 57))) rfl rfl ?_
 rcases Bool.eq_false_or_eq_true (decide ((btAt a0 x29) ≤ 57)) with hb42 | hb42
 have h := ite_t hb42 h
 iterate 2 refine Of 45 rfl rfl hb42 rfl ?_
 refine Pu (.bool true) (PO.pickT rfl hb42 rfl) rfl ?_
 refine Pm (.bool true) rfl rfl ?_
 iterate 2 refine Of 49 rfl rfl rfl rfl ?_
 refine Pu (.bool true) (PO.pickT rfl rfl rfl) rfl ?_
 refine Pa (.bool true) rfl rfl ?_
 refine WL.nil ?_
 obtain rfl := Option.some.inj h
 refine WQ.thenJ ?_
 exact ⟨(IM.le.refl _), rfl, hs28_0, hs28_3, rfl⟩
 have h := ite_f hb42 h
 refine On 45 rfl rfl hb42 ?_
 refine Pm (.int .u8 (btAt a0 x29)) rfl rfl ?_
 refine On 45 rfl rfl hb42 ?_
 refine Pu (.bool (decide ((btAt a0 x29) = 46))) (PO.eql rfl rfl) rfl ?_
 refine Pu (.bool (decide ((btAt a0 x29) = 46))) (PO.pickF rfl hb42 rfl) rfl ?_
 refine Pm (.bool (decide ((btAt a0 x29) = 46))) rfl rfl ?_
 rcases Bool.eq_false_or_eq_true (decide ((btAt a0 x29) = 46)) with hb43 | hb43
 have h := ite_t hb43 h
 iterate 2 refine Of 49 rfl rfl hb43 rfl ?_
 refine Pu (.bool true) (PO.pickT rfl hb43 rfl) rfl ?_
 refine Pa (.bool true) rfl rfl ?_
 refine WL.nil ?_
 obtain rfl := Option.some.inj h
 refine WQ.thenJ ?_
 exact ⟨(IM.le.refl _), rfl, hs28_0, hs28_3, rfl⟩
 have h := ite_f hb43 h
 refine On 49 rfl rfl hb43 ?_
 refine Pm (.int .u8 (btAt a0 x29)) rfl rfl ?_
 refine On 49 rfl rfl hb43 ?_
 refine Pu (.bool (decide ((btAt a0 x29) = 45))) (PO.eql rfl rfl) rfl ?_
 refine Pu (.bool (decide ((btAt a0 x29) = 45))) (PO.pickF rfl hb43 rfl) rfl ?_
 refine Pa (.bool (decide ((btAt a0 x29) = 45))) rfl rfl ?_
 refine WL.nil ?_
 obtain rfl := Option.some.inj h
 refine WQ.thenJ ?_
 exact ⟨(IM.le.refl _), rfl, hs28_0, hs28_3, rfl⟩
 have h := ite_f hb41 h
 iterate 2 refine Of 40 rfl rfl hb41 rfl ?_
 refine On 37 rfl rfl rfl ?_
 refine Pu (.bool false) (PO.pickF rfl hb41 rfl) rfl ?_
 refine Pu (.bool false) (PO.pickF rfl rfl rfl) rfl ?_
 refine Pm (.bool false) rfl rfl ?_
 refine On 45 rfl rfl rfl ?_
 refine Pm (.int .u8 (btAt a0 x29)) rfl rfl ?_
 refine On 45 rfl rfl rfl ?_
 refine Pu (.bool (decide ((btAt a0 x29) = 46))) (PO.eql rfl rfl) rfl ?_
 refine Pu (.bool (decide ((btAt a0 x29) = 46))) (PO.pickF rfl rfl rfl) rfl ?_
 refine Pm (.bool (decide ((btAt a0 x29) = 46))) rfl rfl ?_
 rcases Bool.eq_false_or_eq_true (decide ((btAt a0 x29) = 46)) with hb44 | hb44
 have h := ite_t hb44 h
 iterate 2 refine Of 49 rfl rfl hb44 rfl ?_
 refine Pu (.bool true) (PO.pickT rfl hb44 rfl) rfl ?_
 refine Pa (.bool true) rfl rfl ?_
 refine WL.nil ?_
 obtain rfl := Option.some.inj h
 refine WQ.thenJ ?_
 exact ⟨(IM.le.refl _), rfl, hs28_0, hs28_3, rfl⟩
 have h := ite_f hb44 h
 refine On 49 rfl rfl hb44 ?_
 refine Pm (.int .u8 (btAt a0 x29)) rfl rfl ?_
 refine On 49 rfl rfl hb44 ?_
 refine Pu (.bool (decide ((btAt a0 x29) = 45))) (PO.eql rfl rfl) rfl ?_
 refine Pu (.bool (decide ((btAt a0 x29) = 45))) (PO.pickF rfl hb44 rfl) rfl ?_
 refine Pa (.bool (decide ((btAt a0 x29) = 45))) rfl rfl ?_
 refine WL.nil ?_
 obtain rfl := Option.some.inj h
 refine WQ.thenJ ?_
 exact ⟨(IM.le.refl _), rfl, hs28_0, hs28_3, rfl⟩
 rintro ρ34 M34 H34 ⟨hle34, rfl, hs34_0, hs34_3, hs34_5⟩
 refine Sr ?_
 refine Pm (.bool x33) hs34_5 rfl ?_
 refine Pu (.bool (!x33)) (PO.not rfl) rfl ?_
 refine Nt ?_
 refine WC.cond (b := !x33) rfl (fun hb45 => ?_) (fun hb45 => ?_)
 have h := ite_t hb45 h
 refine Sr ?_
 refine Pa (.bool false) rfl rfl ?_
 refine Nt ?_
 refine WC.ret ?_
 refine WQ.blockR ?_
 refine WQ.thenR ?_
 refine WQ.leaveR (Sum.inr ()) (Option.some.inj h).symm (fun heq28 => ?_)
 subst heq28
 have h := (elimR hK28)
 refine WQ.blockR ?_
 refine WQ.thenR ?_
 have h := KK.early h h327
 exact WQ.returnsF h [] rfl (results1 rfl rfl) ((hle22.trans hle28).trans hle34) ⟨rfl, rfl⟩
 have h := ite_f hb45 h
 refine WC.skip ?_
 refine WQ.blockN ?_
 refine WQ.thenC ?_
 refine WC.region ?_
 refine Pm (.int .i64 x29) hs34_3 rfl ?_
 refine Pu (.int .i64 (IntKind.i64.wrap (x29 + 1))) (PO.add rfl rfl) rfl ?_
 refine Pa (.int .i64 (IntKind.i64.wrap (x29 + 1))) rfl rfl ?_
 refine WL.nil ?_
 refine WQ.again (IntKind.i64.wrap (x29 + 1)) (Option.some.inj h).symm ?_
 exact ⟨(hle28.trans hle34), rfl, hs34_0, rfl⟩
 have h := ite_f hb30 h
 refine WC.exit ?_
 refine WQ.thenE ?_
 refine WQ.leaveE (Sum.inl ()) (Option.some.inj h).symm (fun heq28 => ?_)
 subst heq28
 have h := elimL hK28
 refine WQ.blockH ?_
 refine WQ.thenFE h ?_
 exact ⟨hle28, rfl⟩
 rintro _ ρ27 M27 H27 rfl ⟨hle27, rfl⟩
 have h := (Sum.elim_inl _ _ _).symm.trans h
 refine Sr ?_
 refine Pa (.bool true) rfl rfl ?_
 refine Nt ?_
 refine WC.ret ?_
 exact WQ.returnsF h [] rfl (results1 rfl rfl) (hle22.trans hle27) ⟨rfl, rfl⟩

noncomputable def f_ref05_name (a0 : ByteArray) (a1 : Bool) : Option Bool :=
  (if a1 = true then ((f_ref05_Name a0).bind fun (r22 : Bool) => (some r22)) else (some (decide (a0 = (⟨#[]⟩ : ByteArray)))))
def f_ref05_name_post (a0 : ByteArray) (a1 : Bool) : Bool → Value → IM → HL → Prop :=
  fun (r0 : Bool) (v : Value) (M' : IM) (H' : HL) => (.bool r0) = v ∧ H' = []
theorem f_ref05_name_ok (a0 : ByteArray) (a1 : Bool) (M : IM) (res : Bool) (h : f_ref05_name a0 a1 = some res) :
    Tri Tryz.prog 62 #[(.string a0), (.bool a1)] M [] (f_ref05_name_post a0 a1 res) := by
 unfold f_ref05_name at h
 refine Tri.enter (fn := Tryz.f62) Tryz.func62 rfl (Nat.le_of_ble_eq_true rfl) ?_
 intro F ρ hρ
 refine Sr ?_
 refine Pa (.bool false) rfl rfl ?_
 refine Nt ?_
 refine WC.seq ?_
 refine Sr ?_
 refine Pm (.bool a1) (hρ 1) rfl ?_
 refine Nt ?_
 refine WC.cond (b := a1) rfl (fun hb21 => ?_) (fun hb21 => ?_)
 have h := ite_t hb21 h
 refine Sr ?_
 refine Pm (.string a0) (hρ 0) rfl ?_
 obtain ⟨r22, hr23, h⟩ := bnd h
 refine WL.eff (EO.call0 co100 (f_ref05_Name_ok a0 _ r22 hr23) (args1 rfl)) rfl ?_
 rintro _ M24 _ hle25 ⟨_, ⟨rfl, rfl⟩, rfl⟩
 refine WL.a0 ?_
 refine Pa (.bool r22) rfl rfl ?_
 refine Nt ?_
 refine WC.ret ?_
 refine WQ.thenR ?_
 exact WQ.returnsF h [] rfl (results1 rfl rfl) hle25 ⟨rfl, rfl⟩
 have h := ite_f hb21 h
 refine WC.skip ?_
 refine WQ.thenC ?_
 refine Sr ?_
 refine Pm (.string a0) (hρ 0) rfl ?_
 refine Pu (.bool (decide (a0 = (⟨#[]⟩ : ByteArray)))) (PO.seql rfl rfl) rfl ?_
 refine Pa (.bool (decide (a0 = (⟨#[]⟩ : ByteArray)))) rfl rfl ?_
 refine Nt ?_
 refine WC.ret ?_
 exact WQ.returnsF h [] rfl (results1 rfl rfl) (IM.le.refl _) ⟨rfl, rfl⟩

noncomputable def f_ref05_Brokers_l1 (a0 : (List Int)) (x24 : Int) (s_ : Int) : Option (Int ⊕ (Unit ⊕ Unit)) :=
  match s_ with
  | x46 =>
    (if (decide (x46 < x24)) = true then (grd (0 ≤ x46 ∧ x46 < a0.length) (grd (0 ≤ x24 ∧ x24 < a0.length) (if (decide ((rd a0 x46) = (rd a0 x24))) = true then (some (Sum.inr (Sum.inr ()))) else (some (Sum.inl (IntKind.i64.wrap (x46 + (1 : Int)))))))) else (some (Sum.inr (Sum.inl ()))))
noncomputable def f_ref05_Brokers_l0 (a0 : (List Int)) (s_ : Int) : Option (Int ⊕ (Unit ⊕ Unit)) :=
  match s_ with
  | x24 =>
    (if (decide (x24 < (a0.length : Int))) = true then (((((grd (0 ≤ x24 ∧ x24 < a0.length) (if (decide ((rd a0 x24) < (1 : Int))) = true then (some true) else (grd (0 ≤ x24 ∧ x24 < a0.length) (some (decide ((64 : Int) < (rd a0 x24))))))) : Option Bool).bind fun (x27 : Bool) => (if x27 = true then (((some (Sum.inr (Sum.inr ())))).bind fun r => some (Sum.inr r)) else ((iter (f_ref05_Brokers_l1 a0 x24) (0 : Int)).bind (Sum.elim (fun _ => (some (Sum.inl ()))) (fun _ => (((some (Sum.inr (Sum.inr ())))).bind fun r => some (Sum.inr r))))))) : Option (Unit ⊕ (Int ⊕ (Unit ⊕ Unit)))).bind (Sum.elim (fun _ => (some (Sum.inl (IntKind.i64.wrap (x24 + (1 : Int)))))) some)) else (some (Sum.inr (Sum.inl ()))))
noncomputable def f_ref05_Brokers (a0 : (List Int)) : Option Bool :=
  (if (decide ((7 : Int) < (a0.length : Int))) = true then (some false) else ((((iter (f_ref05_Brokers_l0 a0) (0 : Int)).bind (Sum.elim (fun _ => (some (Sum.inl ()))) (fun _ => (((some false)).bind fun r => some (Sum.inr r))))) : Option (Unit ⊕ Bool)).bind (Sum.elim (fun _ => (some true)) some)))
def f_ref05_Brokers_post (a0 : (List Int)) (v0 : Value) : Bool → Value → IM → HL → Prop :=
  fun (r0 : Bool) (v : Value) (M' : IM) (H' : HL) => (.bool r0) = v ∧ H' = []
theorem f_ref05_Brokers_ok (a0 : (List Int)) (M : IM) (v0 : Value) (h0 : RS (Kd.int .i64) M v0 a0) (res : Bool) (h : f_ref05_Brokers a0 = some res) :
    Tri Tryz.prog 101 #[v0] M [] (f_ref05_Brokers_post a0 v0 res) := by
 unfold f_ref05_Brokers at h
 refine Tri.enter (fn := Tryz.f101) Tryz.func101 rfl (Nat.le_of_ble_eq_true rfl) ?_
 intro F ρ hρ
 refine Sr ?_
 refine Pa (.bool false) rfl rfl ?_
 refine Nt ?_
 refine WC.seq ?_
 refine Sr ?_
 refine Pm v0 (hρ 0) rfl ?_
 refine Pu (.int .i64 (a0.length : Int)) (PO.lenS Tryz.underlying65 rfl h0.len) rfl ?_
 refine Pu (.bool (decide ((7 : Int) < (a0.length : Int)))) (PO.gtr rfl rfl) rfl ?_
 refine Nt ?_
 refine WC.cond (b := decide ((7 : Int) < (a0.length : Int))) rfl (fun hb21 => ?_) (fun hb21 => ?_)
 have h := ite_t hb21 h
 refine Sr ?_
 refine Pa (.bool false) rfl rfl ?_
 refine Nt ?_
 refine WC.ret ?_
 refine WQ.thenR ?_
 exact WQ.returnsF h [] rfl (results1 rfl rfl) (IM.le.refl _) ⟨rfl, rfl⟩
 have h := ite_f hb21 h
 refine WC.skip ?_
 refine WQ.thenC ?_
 obtain ⟨j22, hj22, h⟩ := bnd h
 refine WC.joinE (fun (_ : Unit) ρ' M' H' => M.le M' ∧ F = H') j22 ?_ ?_
 have h322 := h
 have h := hj22
 refine Sr ?_
 refine Pa (.int .i64 0) rfl rfl ?_
 refine Nt ?_
 refine WC.block ?_
 obtain ⟨e23, he23, hK23⟩ := bnd h
 clear h
 refine WC.loop he23 (fun (x24 : Int) ρ' M' H' => M.le M' ∧ F = H' ∧ ρ' 0 = v0 ∧ ρ' 3 = (.int .i64 x24)) ?_ ?_
 exact ⟨(IM.le.refl _), rfl, (hρ 0), rfl⟩
 rintro x24 o23 ρ23 M23 H23 h ⟨hle23, rfl, hs23_0, hs23_3⟩
 unfold f_ref05_Brokers_l0 at h
 have h0 := h0.mono hle23
 refine WC.seq ?_
 refine Sr ?_
 refine Pm (.int .i64 x24) hs23_3 rfl ?_
 refine Pm v0 hs23_0 rfl ?_
 refine Pu (.int .i64 (a0.length : Int)) (PO.lenS Tryz.underlying65 rfl h0.len) rfl ?_
 refine Pu (.bool (decide (x24 < (a0.length : Int)))) (PO.lss rfl rfl) rfl ?_
 refine Nt ?_
 refine WC.cond (b := decide (x24 < (a0.length : Int))) rfl (fun hb25 => ?_) (fun hb25 => ?_)
 have h := ite_t hb25 h
 refine WC.skip ?_
 refine WQ.thenC ?_
 obtain ⟨j26, hj26, h⟩ := bnd h
 refine WC.joinE (fun (_ : Unit) ρ' M' H' => M23.le M' ∧ F = H' ∧ ρ' 0 = v0 ∧ ρ' 3 = (.int .i64 x24)) j26 ?_ ?_
 have h326 := h
 have h := hj26
 refine WC.block ?_
 refine WC.seq ?_
 obtain ⟨x27, hj28, h⟩ := bnd h
 refine WC.joinF (fun (x27 : Bool) ρ' M' H' => M23.le M' ∧ F = H' ∧ ρ' 0 = v0 ∧ ρ' 3 = (.int .i64 x24) ∧ ρ' 25 = (.bool x27)) x27 ?_ ?_
 have h328 := h
 have h := hj28
 refine WC.region ?_
 refine Pm v0 hs23_0 rfl ?_
 refine Pm (.int .i64 x24) hs23_3 rfl ?_
 obtain ⟨hg29, h⟩ := grd_i h
 obtain ⟨p30, cs31, hat32, hrc33, hhas34⟩ := h0.at hg29.1 hg29.2 (by decide)
 obtain rfl := hrc33
 refine Pu (.pointer (some p30)) (PO.indexAddr (n := a0.length) Tryz.underlying65 sz3 rfl rfl hg29.1 hg29.2 hat32) rfl ?_
 refine Pu (.int .i64 (rd a0 x24)) (PO.loadM pl3 rfl (IM.has0 hhas34)) rfl ?_
 refine Pu (.bool (decide ((rd a0 x24) < 1))) (PO.lss rfl rfl) rfl ?_
 refine Pm (.bool (decide ((rd a0 x24) < 1))) rfl rfl ?_
 rcases Bool.eq_false_or_eq_true (decide ((rd a0 x24) < 1)) with hb36 | hb36
 have h := ite_t hb36 h
 iterate 5 refine Of 19 rfl rfl hb36 rfl ?_
 refine Pu (.bool true) (PO.pickT rfl hb36 rfl) rfl ?_
 refine WL.nil ?_
 obtain rfl := Option.some.inj h
 refine WQ.thenJ ?_
 exact ⟨(IM.le.refl _), rfl, hs23_0, hs23_3, rfl⟩
 have h := ite_f hb36 h
 refine On 19 rfl rfl hb36 ?_
 refine Pm v0 hs23_0 rfl ?_
 refine On 19 rfl rfl hb36 ?_
 refine Pm (.int .i64 x24) hs23_3 rfl ?_
 refine On 19 rfl rfl hb36 ?_
 obtain ⟨hg37, h⟩ := grd_i h
 obtain ⟨p38, cs39, hat40, hrc41, hhas42⟩ := h0.at hg37.1 hg37.2 (by decide)
 obtain rfl := hrc41
 refine Pu (.pointer (some p38)) (PO.indexAddr (n := a0.length) Tryz.underlying65 sz3 rfl rfl hg37.1 hg37.2 hat40) rfl ?_
 refine On 19 rfl rfl hb36 ?_
 refine Pu (.int .i64 (rd a0 x24)) (PO.loadM pl3 rfl (IM.has0 hhas42)) rfl ?_
 refine On 19 rfl rfl hb36 ?_
 refine Pu (.bool (decide ((64 : Int) < (rd a0 x24)))) (PO.gtr rfl rfl) rfl ?_
 refine Pu (.bool (decide ((64 : Int) < (rd a0 x24)))) (PO.pickF rfl hb36 rfl) rfl ?_
 refine WL.nil ?_
 obtain rfl := Option.some.inj h
 refine WQ.thenJ ?_
 exact ⟨(IM.le.refl _), rfl, hs23_0, hs23_3, rfl⟩
 rintro ρ28 M28 H28 ⟨hle28, rfl, hs28_0, hs28_3, hs28_25⟩
 have h0 := h0.mono hle28
 refine WC.cond (b := x27) hs28_25 (fun hb44 => ?_) (fun hb44 => ?_)
 have h := ite_t hb44 h
 refine Sr ?_
 refine Pa (.bool false) rfl rfl ?_
 refine Nt ?_
 refine WC.ret ?_
 refine WQ.thenR ?_
 refine WQ.blockR ?_
 refine WQ.thenR ?_
 have h := KK.early h h326
 refine WQ.leaveR (Sum.inr ()) (Option.some.inj h).symm (fun heq23 => ?_)
 subst heq23
 have h := (elimR hK23)
 refine WQ.blockR ?_
 refine WQ.thenR ?_
 have h := KK.early h h322
 exact WQ.returnsF h [] rfl (results1 rfl rfl) (hle23.trans hle28) ⟨rfl, rfl⟩
 have h := ite_f hb44 h
 refine WC.skip ?_
 refine WQ.thenC ?_
 refine Sr ?_
 refine Pa (.int .i64 0) rfl rfl ?_
 refine Nt ?_
 refine WC.block ?_
 obtain ⟨e45, he45, hK45⟩ := bnd h
 clear h
 refine WC.loop he45 (fun (x46 : Int) ρ' M' H' => M28.le M' ∧ F = H' ∧ ρ' 0 = v0 ∧ ρ' 3 = (.int .i64 x24) ∧ ρ' 4 = (.int .i64 x46)) ?_ ?_
 exact ⟨(IM.le.refl _), rfl, hs28_0, hs28_3, rfl⟩
 rintro x46 o45 ρ45 M45 H45 h ⟨hle45, rfl, hs45_0, hs45_3, hs45_4⟩
 unfold f_ref05_Brokers_l1 at h
 have h0 := h0.mono hle45
 refine WC.seq ?_
 refine Sr ?_
 refine Pm (.int .i64 x46) hs45_4 rfl ?_
 refine Pm (.int .i64 x24) hs45_3 rfl ?_
 refine Pu (.bool (decide (x46 < x24))) (PO.lss rfl rfl) rfl ?_
 refine Nt ?_
 refine WC.cond (b := decide (x46 < x24)) rfl (fun hb47 => ?_) (fun hb47 => ?_)
 have h := ite_t hb47 h
 refine WC.skip ?_
 refine WQ.thenC ?_
 refine WC.seq ?_
 refine WC.block ?_
 refine WC.seq ?_
 refine WC.draw [0, 0, 3, 7, 0, 0, 48, 112, 255] (.pure 0 (.pure 1 (.pure 2 (.pure 3 (.pure 4 (.pure 5 (.pure 6 (.pure 7 (.pure 8 .done))))))))) mixed (by kernel_rfl) ?_
 refine Tp v0 rfl (PO.move hs45_0) rfl ?_
 refine Tp (.int .i64 x46) rfl (PO.move hs45_4) rfl ?_
 obtain ⟨hg48, h⟩ := grd_i h
 obtain ⟨p49, cs50, hat51, hrc52, hhas53⟩ := h0.at hg48.1 hg48.2 (by decide)
 obtain rfl := hrc52
 refine Tp (.pointer (some p49)) rfl (PO.indexAddr (n := a0.length) Tryz.underlying65 sz3 rfl rfl hg48.1 hg48.2 hat51) rfl ?_
 refine Tp (.int .i64 (rd a0 x46)) rfl (PO.loadM pl3 rfl (IM.has0 hhas53)) rfl ?_
 refine Tp v0 rfl (PO.move hs45_0) rfl ?_
 refine Tp (.int .i64 x24) rfl (PO.move hs45_3) rfl ?_
 obtain ⟨hg55, h⟩ := grd_i h
 obtain ⟨p56, cs57, hat58, hrc59, hhas60⟩ := h0.at hg55.1 hg55.2 (by decide)
 obtain rfl := hrc59
 refine Tp (.pointer (some p56)) rfl (PO.indexAddr (n := a0.length) Tryz.underlying65 sz3 rfl rfl hg55.1 hg55.2 hat58) rfl ?_
 refine Tp (.int .i64 (rd a0 x24)) rfl (PO.loadM pl3 rfl (IM.has0 hhas60)) rfl ?_
 refine Tp (.bool (decide ((rd a0 x46) = (rd a0 x24)))) rfl (PO.eql rfl rfl) rfl ?_
 refine WT.fin ?_
 refine WQ.thenC ?_
 refine WC.cond (b := decide ((rd a0 x46) = (rd a0 x24))) rfl (fun hb62 => ?_) (fun hb62 => ?_)
 have h := ite_t hb62 h
 refine Sr ?_
 refine Pa (.bool false) rfl rfl ?_
 refine Nt ?_
 refine WC.ret ?_
 refine WQ.blockR ?_
 refine WQ.thenR ?_
 refine WQ.leaveR (Sum.inr ()) (Option.some.inj h).symm (fun heq45 => ?_)
 subst heq45
 have h := (elimR hK45)
 refine WQ.blockR ?_
 refine WQ.blockR ?_
 refine WQ.thenR ?_
 have h := KK.early h h326
 refine WQ.leaveR (Sum.inr ()) (Option.some.inj h).symm (fun heq23 => ?_)
 subst heq23
 have h := (elimR hK23)
 refine WQ.blockR ?_
 refine WQ.thenR ?_
 have h := KK.early h h322
 exact WQ.returnsF h [] rfl (results1 rfl rfl) ((hle23.trans hle28).trans hle45) ⟨rfl, rfl⟩
 have h := ite_f hb62 h
 refine WC.skip ?_
 refine WQ.blockN ?_
 refine WQ.thenC ?_
 refine WC.region ?_
 refine Pm (.int .i64 x46) hs45_4 rfl ?_
 refine Pu (.int .i64 (IntKind.i64.wrap (x46 + 1))) (PO.add rfl rfl) rfl ?_
 refine Pa (.int .i64 (IntKind.i64.wrap (x46 + 1))) rfl rfl ?_
 refine WL.nil ?_
 refine WQ.again (IntKind.i64.wrap (x46 + 1)) (Option.some.inj h).symm ?_
 exact ⟨hle45, rfl, hs45_0, hs45_3, rfl⟩
 have h := ite_f hb47 h
 refine WC.exit ?_
 refine WQ.thenE ?_
 refine WQ.leaveE (Sum.inl ()) (Option.some.inj h).symm (fun heq45 => ?_)
 subst heq45
 have h := elimL hK45
 refine WQ.blockH ?_
 refine WQ.blockN ?_
 refine WQ.thenFE h ?_
 exact ⟨(hle28.trans hle45), rfl, hs45_0, hs45_3⟩
 rintro _ ρ26 M26 H26 rfl ⟨hle26, rfl, hs26_0, hs26_3⟩
 have h := (Sum.elim_inl _ _ _).symm.trans h
 have h0 := h0.mono hle26
 refine WC.region ?_
 refine Pm (.int .i64 x24) hs26_3 rfl ?_
 refine Pu (.int .i64 (IntKind.i64.wrap (x24 + 1))) (PO.add rfl rfl) rfl ?_
 refine Pa (.int .i64 (IntKind.i64.wrap (x24 + 1))) rfl rfl ?_
 refine WL.nil ?_
 refine WQ.again (IntKind.i64.wrap (x24 + 1)) (Option.some.inj h).symm ?_
 exact ⟨(hle23.trans hle26), rfl, hs26_0, rfl⟩
 have h := ite_f hb25 h
 refine WC.exit ?_
 refine WQ.thenE ?_
 refine WQ.leaveE (Sum.inl ()) (Option.some.inj h).symm (fun heq23 => ?_)
 subst heq23
 have h := elimL hK23
 refine WQ.blockH ?_
 refine WQ.thenFE h ?_
 exact ⟨hle23, rfl⟩
 rintro _ ρ22 M22 H22 rfl ⟨hle22, rfl⟩
 have h := (Sum.elim_inl _ _ _).symm.trans h
 refine Sr ?_
 refine Pa (.bool true) rfl rfl ?_
 refine Nt ?_
 refine WC.ret ?_
 exact WQ.returnsF h [] rfl (results1 rfl rfl) hle22 ⟨rfl, rfl⟩

noncomputable def f_ref05_row (a0 : (List Int)) (a1 : Bool) : Option Bool :=
  (if a1 = true then ((f_ref05_Brokers a0).bind fun (r22 : Bool) => (some r22)) else (some (decide ((a0.length : Int) = (0 : Int)))))
def f_ref05_row_post (a0 : (List Int)) (a1 : Bool) (v0 : Value) : Bool → Value → IM → HL → Prop :=
  fun (r0 : Bool) (v : Value) (M' : IM) (H' : HL) => (.bool r0) = v ∧ H' = []
theorem f_ref05_row_ok (a0 : (List Int)) (a1 : Bool) (M : IM) (v0 : Value) (h0 : RS (Kd.int .i64) M v0 a0) (res : Bool) (h : f_ref05_row a0 a1 = some res) :
    Tri Tryz.prog 63 #[v0, (.bool a1)] M [] (f_ref05_row_post a0 a1 v0 res) := by
 unfold f_ref05_row at h
 refine Tri.enter (fn := Tryz.f63) Tryz.func63 rfl (Nat.le_of_ble_eq_true rfl) ?_
 intro F ρ hρ
 refine Sr ?_
 refine Pa (.bool false) rfl rfl ?_
 refine Nt ?_
 refine WC.seq ?_
 refine Sr ?_
 refine Pm (.bool a1) (hρ 1) rfl ?_
 refine Nt ?_
 refine WC.cond (b := a1) rfl (fun hb21 => ?_) (fun hb21 => ?_)
 have h := ite_t hb21 h
 refine Sr ?_
 refine Pm v0 (hρ 0) rfl ?_
 obtain ⟨r22, hr23, h⟩ := bnd h
 refine WL.eff (EO.call0 co101 (f_ref05_Brokers_ok a0 _ _ h0 r22 hr23) (args1 rfl)) rfl ?_
 rintro _ M24 _ hle25 ⟨_, ⟨rfl, rfl⟩, rfl⟩
 have h0 := h0.mono hle25
 refine WL.a0 ?_
 refine Pa (.bool r22) rfl rfl ?_
 refine Nt ?_
 refine WC.ret ?_
 refine WQ.thenR ?_
 exact WQ.returnsF h [] rfl (results1 rfl rfl) hle25 ⟨rfl, rfl⟩
 have h := ite_f hb21 h
 refine WC.skip ?_
 refine WQ.thenC ?_
 refine Sr ?_
 refine Pm v0 (hρ 0) rfl ?_
 refine Pu (.int .i64 (a0.length : Int)) (PO.lenS Tryz.underlying65 rfl h0.len) rfl ?_
 refine Pu (.bool (decide ((a0.length : Int) = (0 : Int)))) (PO.eql rfl rfl) rfl ?_
 refine Pa (.bool (decide ((a0.length : Int) = (0 : Int)))) rfl rfl ?_
 refine Nt ?_
 refine WC.ret ?_
 exact WQ.returnsF h [] rfl (results1 rfl rfl) (IM.le.refl _) ⟨rfl, rfl⟩


end Go.Proofs.YtjiffdgidodebaaGreatDoor.G
