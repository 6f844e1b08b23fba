/- Go functions: what they come to, and that they do. Printed by a program of the session (gen). -/
import Derived.Test.YtjiffdgidodebaaGreatDoorPF
import Derived.Test.YtjiffdgidodebaaGreatDoorP10
import Derived.Test.YtjiffdgidodebaaGreatDoorKShar2
import Derived.Test.YtjiffdgidodebaaGreatDoorKConv
set_option linter.unusedVariables false
set_option linter.unusedSimpArgs false
set_option maxHeartbeats 8000000
set_option maxRecDepth 100000
namespace Go.Proofs.YtjiffdgidodebaaGreatDoor.G
open Go Go.KK

noncomputable def f_ref05_has_l0 (a1 : Int) (x21 : ByteArray) (s_ : Int) : Option (Int ⊕ (Unit ⊕ Unit)) :=
  match s_ with
  | x38 =>
    (if (decide (x38 < (x21.size : Int))) = true then (grd (0 ≤ x38 ∧ x38 < x21.size) (if (decide ((btAt x21 x38) = a1)) = true then (some (Sum.inr (Sum.inr ()))) else (some (Sum.inl (IntKind.i64.wrap (x38 + (1 : Int))))))) else (some (Sum.inr (Sum.inl ()))))
noncomputable def f_ref05_has (a0 : Int) (a1 : Int) : Option Bool :=
  (((if (decide (a0 = (2 : Int))) = true then (some (⟨#[98, 101, 114]⟩ : ByteArray)) else (((if (decide (a0 = (3 : Int))) = true then (some (decide (a0 = (3 : Int)))) else (if (decide (a0 = (4 : Int))) = true then (some (decide (a0 = (4 : Int)))) else (if (decide (a0 = (5 : Int))) = true then (some (decide (a0 = (5 : Int)))) else (some (decide (a0 = (6 : Int))))))) : Option Bool).bind fun (x24 : Bool) => (if x24 = true then (some (⟨#[98, 101]⟩ : ByteArray)) else (if (decide (a0 = (7 : Int))) = true then (some (⟨#[116, 110]⟩ : ByteArray)) else (if (decide (a0 = (8 : Int))) = true then (some (⟨#[116, 112, 108, 105, 109]⟩ : ByteArray)) else (if (decide (a0 = (9 : Int))) = true then (some (⟨#[116, 101, 112, 108, 105, 109, 120]⟩ : ByteArray)) else (if (decide (a0 = (10 : Int))) = true then (some (⟨#[116, 107, 118, 102]⟩ : ByteArray)) else (if (decide (a0 = (11 : Int))) = true then (some (⟨#[116]⟩ : ByteArray)) else (if (decide (a0 = (12 : Int))) = true then (some (⟨#[97]⟩ : ByteArray)) else (some (⟨#[]⟩ : ByteArray))))))))))) : Option ByteArray).bind fun (x21 : ByteArray) => ((((iter (f_ref05_has_l0 a1 x21) (0 : Int)).bind (Sum.elim (fun _ => (some (Sum.inl ()))) (fun _ => (((some true)).bind fun r => some (Sum.inr r))))) : Option (Unit ⊕ Bool)).bind (Sum.elim (fun _ => (some false)) some)))
def f_ref05_has_post (a0 : Int) (a1 : Int) : Bool → Value → IM → HL → Prop :=
  fun (r0 : Bool) (v : Value) (M' : IM) (H' : HL) => (.bool r0) = v ∧ H' = []
theorem f_ref05_has_ok (a0 : Int) (a1 : Int) (M : IM) (res : Bool) (h : f_ref05_has a0 a1 = some res) :
    Tri Tryz.prog 61 #[(.int .i64 a0), (.int .u8 a1)] M [] (f_ref05_has_post a0 a1 res) := by
 unfold f_ref05_has at h
 refine Tri.enter (fn := Tryz.f61) Tryz.func61 rfl (Nat.le_of_ble_eq_true rfl) ?_
 intro F ρ hρ
 refine Sr ?_
 refine Pa (.bool false) rfl rfl ?_
 refine Ns ?_
 refine Pa (.string ⟨#[]⟩) rfl rfl ?_
 refine Nt ?_
 obtain ⟨x21, hj22, h⟩ := bnd h
 refine WC.joinF (fun (x21 : ByteArray) ρ' M' H' => M.le M' ∧ F = H' ∧ ρ' 1 = (.int .u8 a1) ∧ ρ' 5 = (.string x21)) x21 ?_ ?_
 have h322 := h
 have h := hj22
 refine Sr ?_
 refine Pm (.int .i64 a0) (hρ 0) rfl ?_
 refine Nt ?_
 refine WC.block ?_
 refine Sr ?_
 refine Pu (.bool (decide (a0 = 2))) (PO.eql rfl rfl) rfl ?_
 refine Pa (.bool (decide (a0 = 2))) rfl rfl ?_
 refine Nt ?_
 refine WC.cond (b := decide (a0 = 2)) rfl (fun hb23 => ?_) (fun hb23 => ?_)
 have h := ite_t hb23 h
 refine WC.region ?_
 refine Pa (.string ⟨#[98, 101, 114]⟩) rfl rfl ?_
 refine WL.nil ?_
 refine WQ.blockN ?_
 obtain rfl := Option.some.inj h
 refine WQ.thenJ ?_
 exact ⟨(IM.le.refl _), rfl, (hρ 1), rfl⟩
 have h := ite_f hb23 h
 obtain ⟨x24, hj25, h⟩ := bnd h
 refine WC.joinF (fun (x24 : Bool) ρ' M' H' => M.le M' ∧ F = H' ∧ ρ' 1 = (.int .u8 a1) ∧ ρ' 5 = (.string ⟨#[]⟩) ∧ ρ' 7 = (.int .i64 a0) ∧ ρ' 10 = (.bool x24)) x24 ?_ ?_
 have h325 := h
 have h := hj25
 refine Sr ?_
 refine Pu (.bool (decide (a0 = 3))) (PO.eql rfl rfl) rfl ?_
 refine Pa (.bool (decide (a0 = 3))) rfl rfl ?_
 refine Nt ?_
 refine WC.cond (b := decide (a0 = 3)) rfl (fun hb26 => ?_) (fun hb26 => ?_)
 have h := ite_t hb26 h
 refine WC.skip ?_
 obtain rfl := Option.some.inj h
 refine WQ.thenJ ?_
 exact ⟨(IM.le.refl _), rfl, (hρ 1), rfl, rfl, rfl⟩
 have h := ite_f hb26 h
 refine Sr ?_
 refine Pu (.bool (decide (a0 = 4))) (PO.eql rfl rfl) rfl ?_
 refine Pa (.bool (decide (a0 = 4))) rfl rfl ?_
 refine Nt ?_
 refine WC.cond (b := decide (a0 = 4)) rfl (fun hb27 => ?_) (fun hb27 => ?_)
 have h := ite_t hb27 h
 refine WC.skip ?_
 obtain rfl := Option.some.inj h
 refine WQ.thenJ ?_
 exact ⟨(IM.le.refl _), rfl, (hρ 1), rfl, rfl, rfl⟩
 have h := ite_f hb27 h
 refine Sr ?_
 refine Pu (.bool (decide (a0 = 5))) (PO.eql rfl rfl) rfl ?_
 refine Pa (.bool (decide (a0 = 5))) rfl rfl ?_
 refine Nt ?_
 refine WC.cond (b := decide (a0 = 5)) rfl (fun hb28 => ?_) (fun hb28 => ?_)
 have h := ite_t hb28 h
 refine WC.skip ?_
 obtain rfl := Option.some.inj h
 refine WQ.thenJ ?_
 exact ⟨(IM.le.refl _), rfl, (hρ 1), rfl, rfl, rfl⟩
 have h := ite_f hb28 h
 refine WC.region ?_
 refine Pu (.bool (decide (a0 = 6))) (PO.eql rfl rfl) rfl ?_
 refine Pa (.bool (decide (a0 = 6))) rfl rfl ?_
 refine WL.nil ?_
 obtain rfl := Option.some.inj h
 refine WQ.thenJ ?_
 exact ⟨(IM.le.refl _), rfl, (hρ 1), rfl, rfl, rfl⟩
 rintro ρ25 M25 H25 ⟨hle25, rfl, hs25_1, hs25_5, hs25_7, hs25_10⟩
 refine WC.cond (b := x24) hs25_10 (fun hb29 => ?_) (fun hb29 => ?_)
 have h := ite_t hb29 h
 refine WC.region ?_
 refine Pa (.string ⟨#[98, 101]⟩) rfl rfl ?_
 refine WL.nil ?_
 refine WQ.blockN ?_
 obtain rfl := Option.some.inj h
 refine WQ.thenJ ?_
 exact ⟨hle25, rfl, hs25_1, rfl⟩
 have h := ite_f hb29 h
 refine Sr ?_
 refine Pu (.bool (decide (a0 = 7))) (PO.eql hs25_7 rfl) rfl ?_
 refine Pa (.bool (decide (a0 = 7))) rfl rfl ?_
 refine Nt ?_
 refine WC.cond (b := decide (a0 = 7)) rfl (fun hb30 => ?_) (fun hb30 => ?_)
 have h := ite_t hb30 h
 refine WC.region ?_
 refine Pa (.string ⟨#[116, 110]⟩) rfl rfl ?_
 refine WL.nil ?_
 refine WQ.blockN ?_
 obtain rfl := Option.some.inj h
 refine WQ.thenJ ?_
 exact ⟨hle25, rfl, hs25_1, rfl⟩
 have h := ite_f hb30 h
 refine Sr ?_
 refine Pu (.bool (decide (a0 = 8))) (PO.eql hs25_7 rfl) rfl ?_
 refine Pa (.bool (decide (a0 = 8))) rfl rfl ?_
 refine Nt ?_
 refine WC.cond (b := decide (a0 = 8)) rfl (fun hb31 => ?_) (fun hb31 => ?_)
 have h := ite_t hb31 h
 refine WC.region ?_
 refine Pa (.string ⟨#[116, 112, 108, 105, 109]⟩) rfl rfl ?_
 refine WL.nil ?_
 refine WQ.blockN ?_
 obtain rfl := Option.some.inj h
 refine WQ.thenJ ?_
 exact ⟨hle25, rfl, hs25_1, rfl⟩
 have h := ite_f hb31 h
 refine Sr ?_
 refine Pu (.bool (decide (a0 = 9))) (PO.eql hs25_7 rfl) rfl ?_
 refine Pa (.bool (decide (a0 = 9))) rfl rfl ?_
 refine Nt ?_
 refine WC.cond (b := decide (a0 = 9)) rfl (fun hb32 => ?_) (fun hb32 => ?_)
 have h := ite_t hb32 h
 refine WC.region ?_
 refine Pa (.string ⟨#[116, 101, 112, 108, 105, 109, 120]⟩) rfl rfl ?_
 refine WL.nil ?_
 refine WQ.blockN ?_
 obtain rfl := Option.some.inj h
 refine WQ.thenJ ?_
 exact ⟨hle25, rfl, hs25_1, rfl⟩
 have h := ite_f hb32 h
 refine Sr ?_
 refine Pu (.bool (decide (a0 = 10))) (PO.eql hs25_7 rfl) rfl ?_
 refine Pa (.bool (decide (a0 = 10))) rfl rfl ?_
 refine Nt ?_
 refine WC.cond (b := decide (a0 = 10)) rfl (fun hb33 => ?_) (fun hb33 => ?_)
 have h := ite_t hb33 h
 refine WC.region ?_
 refine Pa (.string ⟨#[116, 107, 118, 102]⟩) rfl rfl ?_
 refine WL.nil ?_
 refine WQ.blockN ?_
 obtain rfl := Option.some.inj h
 refine WQ.thenJ ?_
 exact ⟨hle25, rfl, hs25_1, rfl⟩
 have h := ite_f hb33 h
 refine Sr ?_
 refine Pu (.bool (decide (a0 = 11))) (PO.eql hs25_7 rfl) rfl ?_
 refine Pa (.bool (decide (a0 = 11))) rfl rfl ?_
 refine Nt ?_
 refine WC.cond (b := decide (a0 = 11)) rfl (fun hb34 => ?_) (fun hb34 => ?_)
 have h := ite_t hb34 h
 refine WC.region ?_
 refine Pa (.string ⟨#[116]⟩) rfl rfl ?_
 refine WL.nil ?_
 refine WQ.blockN ?_
 obtain rfl := Option.some.inj h
 refine WQ.thenJ ?_
 exact ⟨hle25, rfl, hs25_1, rfl⟩
 have h := ite_f hb34 h
 refine Sr ?_
 refine Pu (.bool (decide (a0 = 12))) (PO.eql hs25_7 rfl) rfl ?_
 refine Pa (.bool (decide (a0 = 12))) rfl rfl ?_
 refine Nt ?_
 refine WC.cond (b := decide (a0 = 12)) rfl (fun hb35 => ?_) (fun hb35 => ?_)
 have h := ite_t hb35 h
 refine WC.region ?_
 refine Pa (.string ⟨#[97]⟩) rfl rfl ?_
 refine WL.nil ?_
 refine WQ.blockN ?_
 obtain rfl := Option.some.inj h
 refine WQ.thenJ ?_
 exact ⟨hle25, rfl, hs25_1, rfl⟩
 have h := ite_f hb35 h
 refine WC.skip ?_
 refine WQ.blockN ?_
 obtain rfl := Option.some.inj h
 refine WQ.thenJ ?_
 exact ⟨hle25, rfl, hs25_1, hs25_5⟩
 rintro ρ22 M22 H22 ⟨hle22, rfl, hs22_1, hs22_5⟩
 obtain ⟨j36, hj36, h⟩ := bnd h
 refine WC.joinE (fun (_ : Unit) ρ' M' H' => M22.le M' ∧ F = H') j36 ?_ ?_
 have h336 := h
 have h := hj36
 refine Sr ?_
 refine Pa (.int .i64 0) rfl rfl ?_
 refine Nt ?_
 refine WC.block ?_
 obtain ⟨e37, he37, hK37⟩ := bnd h
 clear h
 refine WC.loop he37 (fun (x38 : Int) ρ' M' H' => M22.le M' ∧ F = H' ∧ ρ' 1 = (.int .u8 a1) ∧ ρ' 5 = (.string x21) ∧ ρ' 6 = (.int .i64 x38)) ?_ ?_
 exact ⟨(IM.le.refl _), rfl, hs22_1, hs22_5, rfl⟩
 rintro x38 o37 ρ37 M37 H37 h ⟨hle37, rfl, hs37_1, hs37_5, hs37_6⟩
 unfold f_ref05_has_l0 at h
 refine WC.seq ?_
 refine Sr ?_
 refine Pm (.int .i64 x38) hs37_6 rfl ?_
 refine Pm (.string x21) hs37_5 rfl ?_
 refine Pu (.int .i64 (x21.size : Int)) (PO.lenStr Tryz.underlying9 rfl) rfl ?_
 refine Pu (.bool (decide (x38 < (x21.size : Int)))) (PO.lss rfl rfl) rfl ?_
 refine Nt ?_
 refine WC.cond (b := decide (x38 < (x21.size : Int))) rfl (fun hb39 => ?_) (fun hb39 => ?_)
 have h := ite_t hb39 h
 refine WC.skip ?_
 refine WQ.thenC ?_
 refine WC.seq ?_
 refine WC.block ?_
 refine Sr ?_
 refine Pm (.string x21) hs37_5 rfl ?_
 refine Pm (.int .i64 x38) hs37_6 rfl ?_
 obtain ⟨hg40, h⟩ := grd_i h
 refine Pu (.int .u8 (btAt x21 x38)) (PO.indexStr Tryz.underlying9 rfl rfl hg40.1 (strAt hg40)) rfl ?_
 refine Pm (.int .u8 a1) hs37_1 rfl ?_
 refine Pu (.bool (decide ((btAt x21 x38) = a1))) (PO.eql rfl rfl) rfl ?_
 refine Nt ?_
 refine WC.cond (b := decide ((btAt x21 x38) = a1)) rfl (fun hb42 => ?_) (fun hb42 => ?_)
 have h := ite_t hb42 h
 refine Sr ?_
 refine Pa (.bool true) rfl rfl ?_
 refine Nt ?_
 refine WC.ret ?_
 refine WQ.blockR ?_
 refine WQ.thenR ?_
 refine WQ.leaveR (Sum.inr ()) (Option.some.inj h).symm (fun heq37 => ?_)
 subst heq37
 have h := (elimR hK37)
 refine WQ.blockR ?_
 refine WQ.thenR ?_
 have h := KK.early h h336
 exact WQ.returnsF h [] rfl (results1 rfl rfl) (hle22.trans hle37) ⟨rfl, rfl⟩
 have h := ite_f hb42 h
 refine WC.skip ?_
 refine WQ.blockN ?_
 refine WQ.thenC ?_
 refine WC.region ?_
 refine Pm (.int .i64 x38) hs37_6 rfl ?_
 refine Pu (.int .i64 (IntKind.i64.wrap (x38 + 1))) (PO.add rfl rfl) rfl ?_
 refine Pa (.int .i64 (IntKind.i64.wrap (x38 + 1))) rfl rfl ?_
 refine WL.nil ?_
 refine WQ.again (IntKind.i64.wrap (x38 + 1)) (Option.some.inj h).symm ?_
 exact ⟨hle37, rfl, hs37_1, hs37_5, rfl⟩
 have h := ite_f hb39 h
 refine WC.exit ?_
 refine WQ.thenE ?_
 refine WQ.leaveE (Sum.inl ()) (Option.some.inj h).symm (fun heq37 => ?_)
 subst heq37
 have h := elimL hK37
 refine WQ.blockH ?_
 refine WQ.thenFE h ?_
 exact ⟨hle37, rfl⟩
 rintro _ ρ36 M36 H36 rfl ⟨hle36, rfl⟩
 have h := (Sum.elim_inl _ _ _).symm.trans h
 refine Sr ?_
 refine Pa (.bool false) rfl rfl ?_
 refine Nt ?_
 refine WC.ret ?_
 exact WQ.returnsF h [] rfl (results1 rfl rfl) (hle22.trans hle36) ⟨rfl, rfl⟩

noncomputable def f_ref05_num (a0 : Int) (a1 : Bool) (a2 : Int) (a3 : Int) : Option Bool :=
  (if a1 = true then (((if (decide (a2 ≤ a0)) = true then (some (decide (a0 ≤ a3))) else (some false)) : Option Bool).bind fun (x22 : Bool) => (some x22)) else (some (decide (a0 = (0 : Int)))))
def f_ref05_num_post (a0 : Int) (a1 : Bool) (a2 : Int) (a3 : Int) : Bool → Value → IM → HL → Prop :=
  fun (r0 : Bool) (v : Value) (M' : IM) (H' : HL) => (.bool r0) = v ∧ H' = []
theorem f_ref05_num_ok (a0 : Int) (a1 : Bool) (a2 : Int) (a3 : Int) (M : IM) (res : Bool) (h : f_ref05_num a0 a1 a2 a3 = some res) :
    Tri Tryz.prog 99 #[(.int .i64 a0), (.bool a1), (.int .i64 a2), (.int .i64 a3)] M [] (f_ref05_num_post a0 a1 a2 a3 res) := by
 unfold f_ref05_num at h
 refine Tri.enter (fn := Tryz.f99) Tryz.func99 rfl (Nat.le_of_ble_eq_true rfl) ?_
 intro F ρ hρ
 refine Sr ?_
 refine Pa (.bool false) rfl rfl ?_
 refine Nt ?_
 refine WC.seq ?_
 refine Sr ?_
 refine Pm (.bool a1) (hρ 1) rfl ?_
 refine Nt ?_
 refine WC.cond (b := a1) rfl (fun hb21 => ?_) (fun hb21 => ?_)
 have h := ite_t hb21 h
 obtain ⟨x22, hj23, h⟩ := bnd h
 refine WC.joinF (fun (x22 : Bool) ρ' M' H' => M.le M' ∧ F = H' ∧ ρ' 8 = (.bool x22)) x22 ?_ ?_
 have h323 := h
 have h := hj23
 refine WC.region ?_
 refine Pm (.int .i64 a0) (hρ 0) rfl ?_
 refine Pm (.int .i64 a2) (hρ 2) rfl ?_
 refine Pu (.bool (decide (a2 ≤ a0))) (PO.geq rfl rfl) rfl ?_
 refine Pm (.bool (decide (a2 ≤ a0))) rfl rfl ?_
 rcases Bool.eq_false_or_eq_true (decide (a2 ≤ a0)) with hb24 | hb24
 have h := ite_t hb24 h
 refine On 13 rfl rfl hb24 ?_
 refine Pm (.int .i64 a0) (hρ 0) rfl ?_
 refine On 13 rfl rfl hb24 ?_
 refine Pm (.int .i64 a3) (hρ 3) rfl ?_
 refine On 13 rfl rfl hb24 ?_
 refine Pu (.bool (decide (a0 ≤ a3))) (PO.leq rfl rfl) rfl ?_
 refine Pu (.bool (decide (a0 ≤ a3))) (PO.pickT rfl hb24 rfl) rfl ?_
 refine Pa (.bool (decide (a0 ≤ a3))) rfl rfl ?_
 refine WL.nil ?_
 obtain rfl := Option.some.inj h
 refine WQ.thenJ ?_
 exact ⟨(IM.le.refl _), rfl, rfl⟩
 have h := ite_f hb24 h
 iterate 3 refine Of 13 rfl rfl hb24 rfl ?_
 refine Pu (.bool false) (PO.pickF rfl hb24 rfl) rfl ?_
 refine Pa (.bool false) rfl rfl ?_
 refine WL.nil ?_
 obtain rfl := Option.some.inj h
 refine WQ.thenJ ?_
 exact ⟨(IM.le.refl _), rfl, rfl⟩
 rintro ρ23 M23 H23 ⟨hle23, rfl, hs23_8⟩
 refine WC.ret ?_
 refine WQ.thenR ?_
 exact WQ.returnsF h [] rfl (results1 rfl hs23_8) hle23 ⟨rfl, rfl⟩
 have h := ite_f hb21 h
 refine WC.skip ?_
 refine WQ.thenC ?_
 refine Sr ?_
 refine Pm (.int .i64 a0) (hρ 0) rfl ?_
 refine Pu (.bool (decide (a0 = 0))) (PO.eql rfl rfl) rfl ?_
 refine Pa (.bool (decide (a0 = 0))) rfl rfl ?_
 refine Nt ?_
 refine WC.ret ?_
 exact WQ.returnsF h [] rfl (results1 rfl rfl) (IM.le.refl _) ⟨rfl, rfl⟩

noncomputable def f_ref05_numbers (a0 : T_api_Record) : Option T_ref05_Wrong :=
  (((if (decide (a0.Kind = (10 : Int))) = true then (some (0 : Int)) else (some (1 : Int))) : Option Int).bind fun (x23 : Int) => ((f_ref05_has a0.Kind (98 : Int)).bind fun (r26 : Bool) => ((f_ref05_num a0.Broker r26 (1 : Int) (64 : Int)).bind fun (r31 : Bool) => (if (!r31) = true then (some (⟨(⟨#[98, 114, 111, 107, 101, 114]⟩ : ByteArray), a0.Broker, (2 : Int)⟩ : T_ref05_Wrong)) else ((f_ref05_has a0.Kind (101 : Int)).bind fun (r37 : Bool) => ((f_ref05_num a0.Epoch r37 (0 : Int) (1073741824 : Int)).bind fun (r42 : Bool) => (if (!r42) = true then (some (⟨(⟨#[101, 112, 111, 99, 104]⟩ : ByteArray), a0.Epoch, (2 : Int)⟩ : T_ref05_Wrong)) else ((f_ref05_has a0.Kind (116 : Int)).bind fun (r48 : Bool) => ((f_ref05_num a0.Topic r48 x23 (1073741824 : Int)).bind fun (r53 : Bool) => (if (!r53) = true then (some (⟨(⟨#[116, 111, 112, 105, 99]⟩ : ByteArray), a0.Topic, (2 : Int)⟩ : T_ref05_Wrong)) else ((f_ref05_has a0.Kind (112 : Int)).bind fun (r59 : Bool) => ((f_ref05_num a0.Part r59 (0 : Int) (255 : Int)).bind fun (r64 : Bool) => (if (!r64) = true then (some (⟨(⟨#[112, 97, 114, 116]⟩ : ByteArray), a0.Part, (2 : Int)⟩ : T_ref05_Wrong)) else ((f_ref05_has a0.Kind (108 : Int)).bind fun (r70 : Bool) => ((f_ref05_num a0.Leader r70 (0 : Int) (64 : Int)).bind fun (r75 : Bool) => (if (!r75) = true then (some (⟨(⟨#[108, 101, 97, 100, 101, 114]⟩ : ByteArray), a0.Leader, (2 : Int)⟩ : T_ref05_Wrong)) else ((((f_ref05_has a0.Kind (97 : Int)).bind fun (r83 : Bool) => ((f_ref05_num a0.Client r83 (1 : Int) (1073741824 : Int)).bind fun (r88 : Bool) => (if (!r88) = true then (some true) else ((f_ref05_has a0.Kind (97 : Int)).bind fun (r94 : Bool) => ((f_ref05_num a0.Serial r94 (1 : Int) (1073741824 : Int)).bind fun (r99 : Bool) => (if (!r99) = true then (some true) else ((f_ref05_has a0.Kind (97 : Int)).bind fun (r105 : Bool) => ((f_ref05_num a0.Code r105 (0 : Int) (21 : Int)).bind fun (r110 : Bool) => (some (!r110)))))))))) : Option Bool).bind fun (x81 : Bool) => (if x81 = true then (some (⟨(⟨#[97, 115, 107, 101, 114]⟩ : ByteArray), a0.Client, (2 : Int)⟩ : T_ref05_Wrong)) else (some (⟨(⟨#[]⟩ : ByteArray), (0 : Int), (0 : Int)⟩ : T_ref05_Wrong))))))))))))))))))))
def f_ref05_numbers_post (a0 : T_api_Record) (v0_14 v0_15 v0_16 v0_17 : Value) : T_ref05_Wrong → Value → IM → HL → Prop :=
  fun (r0 : T_ref05_Wrong) (v : Value) (M' : IM) (H' : HL) => (.agg #[(.string r0.Op), (.int .i64 r0.At), (.int .i64 r0.Code)]) = v ∧ H' = []
theorem f_ref05_numbers_ok (a0 : T_api_Record) (M : IM) (v0_14 v0_15 v0_16 v0_17 : Value) (h0_14 : RS (Kd.int .i64) M v0_14 a0.Ids) (h0_15 : RS (Kd.int .i64) M v0_15 a0.Isr) (h0_16 : RS (Kd.int .i64) M v0_16 a0.Add) (h0_17 : RS (Kd.int .i64) M v0_17 a0.Drop) (res : T_ref05_Wrong) (h : f_ref05_numbers a0 = some res) :
    Tri Tryz.prog 60 #[(a67_ a0 v0_14 v0_15 v0_16 v0_17)] M [] (f_ref05_numbers_post a0 v0_14 v0_15 v0_16 v0_17 res) := by
 unfold f_ref05_numbers at h
 refine Tri.enter (fn := Tryz.f60) Tryz.func60 rfl (Nat.le_of_ble_eq_true rfl) ?_
 intro F ρ hρ
 refine Sr ?_
 refine WL.eff (EO.box (cs := (l67 a0 v0_14 v0_15 v0_16 v0_17).toArray) (congrArg Value.cells (asE (a67_ a0 v0_14 v0_15 v0_16 v0_17) (hρ 0)))) rfl ?_
 rintro _ _ _ - ⟨rfl, g21, rfl, rfl⟩
 refine WL.eff (EO.alloc ze33 rfl) rfl ?_
 rintro _ _ _ - ⟨rfl, g22, rfl, rfl⟩
 refine Ns ?_
 refine Pu (pt g21 0) (PO.fieldAddr fo67_0 rfl rfl) rfl ?_
 refine Pu (.int .i64 a0.Kind) (PO.loadB 1 pl3 rfl rfl rfl) rfl ?_
 refine Pa (.int .i64 a0.Kind) rfl rfl ?_
 refine Ns ?_
 refine Pa (.int .i64 1073741824) rfl rfl ?_
 refine Ns ?_
 refine Pa (.int .i64 1) rfl rfl ?_
 refine Nt ?_
 obtain ⟨x23, hj24, h⟩ := bnd h
 refine WC.joinF (fun (x23 : Int) ρ' M' H' => M.le M' ∧ [(g22, .cells #[(.string ⟨#[]⟩), (.int .i64 0), (.int .i64 0)] 33 (0, 0))] :: [(g21, .cells (l67 a0 v0_14 v0_15 v0_16 v0_17).toArray 67 (0, 0))] :: F = H' ∧ ρ' 1 = (pt g21 0) ∧ ρ' 2 = (pt g22 0) ∧ ρ' 3 = (.int .i64 a0.Kind) ∧ ρ' 4 = (.int .i64 1073741824) ∧ ρ' 5 = (.int .i64 x23)) x23 ?_ ?_
 have h324 := h
 have h := hj24
 refine Sr ?_
 refine Pm (.int .i64 a0.Kind) rfl rfl ?_
 refine Pu (.bool (decide (a0.Kind = 10))) (PO.eql rfl rfl) rfl ?_
 refine Nt ?_
 refine WC.cond (b := decide (a0.Kind = 10)) rfl (fun hb25 => ?_) (fun hb25 => ?_)
 have h := ite_t hb25 h
 refine WC.region ?_
 refine Pa (.int .i64 0) rfl rfl ?_
 refine WL.nil ?_
 obtain rfl := Option.some.inj h
 refine WQ.thenJ ?_
 exact ⟨(IM.le.refl _), rfl, rfl, rfl, rfl, rfl, rfl⟩
 have h := ite_f hb25 h
 refine WC.skip ?_
 obtain rfl := Option.some.inj h
 refine WQ.thenJ ?_
 exact ⟨(IM.le.refl _), rfl, rfl, rfl, rfl, rfl, rfl⟩
 rintro ρ24 M24 H24 ⟨hle24, rfl, hs24_1, hs24_2, hs24_3, hs24_4, hs24_5⟩
 have h0_14 := h0_14.mono hle24
 have h0_15 := h0_15.mono hle24
 have h0_16 := h0_16.mono hle24
 have h0_17 := h0_17.mono hle24
 refine WC.seq ?_
 refine WC.seq ?_
 refine WC.draw [0, 1, 0, 4, 15, 31] (.pure 0 (.pure 1 (.pure 2 (.alt 3 (.alt 4 (.pure 5 .done) .none) .none)))) mixed (by kernel_rfl) ?_
 refine Tp (pt g21 1) rfl (PO.fieldAddr fo67_1 hs24_1 rfl) rfl ?_
 refine Tp (.int .i64 a0.Broker) rfl (PO.loadB 1 pl3 rfl rfl rfl) rfl ?_
 refine Tp (.int .i64 a0.Kind) rfl (PO.move hs24_3) rfl ?_
 obtain ⟨r26, hr27, h⟩ := bnd h
 refine WT.alt rfl (EO.call0 co61 (f_ref05_has_ok a0.Kind (98 : Int) _ r26 hr27) (args2 rfl rfl)) rfl ?_ ?_
 rintro _ M28 _ hle29 ⟨_, ⟨rfl, rfl⟩, rfl⟩
 have h0_14 := h0_14.mono hle29
 have h0_15 := h0_15.mono hle29
 have h0_16 := h0_16.mono hle29
 have h0_17 := h0_17.mono hle29
 refine ⟨(StabL.anc rfl (StabL.st (StabA.of rfl (PO.loadB 1 pl3 rfl rfl rfl) rfl) (StabL.st (StabA.of rfl (PO.fieldAddr fo67_1 hs24_1 rfl) rfl) trivial))), ?_⟩
 refine WT.a0 ?_
 obtain ⟨r31, hr32, h⟩ := bnd h
 refine WT.alt rfl (EO.call0 co99 (f_ref05_num_ok a0.Broker r26 (1 : Int) (64 : Int) _ r31 hr32) (args4 rfl rfl rfl rfl)) rfl ?_ ?_
 rintro _ M33 _ hle34 ⟨_, ⟨rfl, rfl⟩, rfl⟩
 have h0_14 := h0_14.mono hle34
 have h0_15 := h0_15.mono hle34
 have h0_16 := h0_16.mono hle34
 have h0_17 := h0_17.mono hle34
 refine ⟨(StabL.anc rfl (StabL.anc rfl (StabL.anc rfl trivial))), ?_⟩
 refine WT.a0 ?_
 refine Tp (.bool (!r31)) rfl (PO.not rfl) rfl ?_
 refine WT.fin ?_
 refine WQ.thenC ?_
 refine WC.cond (b := !r31) rfl (fun hb36 => ?_) (fun hb36 => ?_)
 have h := ite_t hb36 h
 refine Sr ?_
 refine Pu (pt g21 1) (PO.fieldAddr fo67_1 hs24_1 rfl) rfl ?_
 refine Pu (.int .i64 a0.Broker) (PO.loadB 1 pl3 rfl rfl rfl) rfl ?_
 refine Pu (.agg #[(.string ⟨#[98, 114, 111, 107, 101, 114]⟩), (.int .i64 a0.Broker), (.int .i64 2)]) (PO.buildL (cl := [(.string ⟨#[98, 114, 111, 107, 101, 114]⟩), (.int .i64 a0.Broker), (.int .i64 2)]) ze33 fp33 (Parts.cons (congrArg Value.cells (show ev _ _ = (.string ⟨#[98, 114, 111, 107, 101, 114]⟩) from rfl)) (Parts.cons (congrArg Value.cells (show ev _ _ = (.int .i64 a0.Broker) from rfl)) (Parts.cons (congrArg Value.cells (show ev _ _ = (.int .i64 2) from rfl)) Parts.nil))) rfl) rfl ?_
 refine WL.eff (EO.storeL (v := (.agg #[(.string ⟨#[98, 114, 111, 107, 101, 114]⟩), (.int .i64 a0.Broker), (.int .i64 2)])) (vl := [(.string ⟨#[98, 114, 111, 107, 101, 114]⟩), (.int .i64 a0.Broker), (.int .i64 2)]) (arr' := [(.string ⟨#[98, 114, 111, 107, 101, 114]⟩), (.int .i64 a0.Broker), (.int .i64 2)]) rfl sz33 hs24_2 rfl (onesOf (Ones.cons rfl (Ones.cons rfl (Ones.cons rfl Ones.nil)))) rfl rfl rfl) rfl ?_
 rintro _ _ _ - ⟨rfl, rfl⟩
 refine Nt ?_
 refine WC.ret ?_
 refine WQ.thenR ?_
 refine WQ.f1 ?_
 refine WQ.drop ?_
 exact WQ.returnsD h [] (fun _ hs => hs.drop) (resultsL1 rfl (RV.cellA (cs := [(.string ⟨#[98, 114, 111, 107, 101, 114]⟩), (.int .i64 a0.Broker), (.int .i64 2)]) 0 ag33 sz33 hs24_2 rfl rfl)) ((hle24.trans hle29).trans hle34) ⟨rfl, rfl⟩
 have h := ite_f hb36 h
 refine WC.skip ?_
 refine WQ.thenC ?_
 refine WC.seq ?_
 refine WC.seq ?_
 refine WC.draw [0, 1, 0, 4, 0, 31, 63] (.pure 0 (.pure 1 (.pure 2 (.pure 4 (.alt 3 (.alt 5 (.pure 6 .done) .none) .none))))) mixed (by kernel_rfl) ?_
 refine Tp (pt g21 2) rfl (PO.fieldAddr fo67_2 hs24_1 rfl) rfl ?_
 refine Tp (.int .i64 a0.Epoch) rfl (PO.loadB 1 pl3 rfl rfl rfl) rfl ?_
 refine Tp (.int .i64 a0.Kind) rfl (PO.move hs24_3) rfl ?_
 refine Tp (.int .i64 1073741824) rfl (PO.move hs24_4) rfl ?_
 obtain ⟨r37, hr38, h⟩ := bnd h
 refine WT.alt rfl (EO.call0 co61 (f_ref05_has_ok a0.Kind (101 : Int) _ r37 hr38) (args2 rfl rfl)) rfl ?_ ?_
 rintro _ M39 _ hle40 ⟨_, ⟨rfl, rfl⟩, rfl⟩
 have h0_14 := h0_14.mono hle40
 have h0_15 := h0_15.mono hle40
 have h0_16 := h0_16.mono hle40
 have h0_17 := h0_17.mono hle40
 refine ⟨(StabL.st (StabA.of rfl (PO.move hs24_4) rfl) (StabL.anc rfl (StabL.st (StabA.of rfl (PO.loadB 1 pl3 rfl rfl rfl) rfl) (StabL.st (StabA.of rfl (PO.fieldAddr fo67_2 hs24_1 rfl) rfl) trivial)))), ?_⟩
 refine WT.a0 ?_
 obtain ⟨r42, hr43, h⟩ := bnd h
 refine WT.alt rfl (EO.call0 co99 (f_ref05_num_ok a0.Epoch r37 (0 : Int) (1073741824 : Int) _ r42 hr43) (args4 rfl rfl rfl rfl)) rfl ?_ ?_
 rintro _ M44 _ hle45 ⟨_, ⟨rfl, rfl⟩, rfl⟩
 have h0_14 := h0_14.mono hle45
 have h0_15 := h0_15.mono hle45
 have h0_16 := h0_16.mono hle45
 have h0_17 := h0_17.mono hle45
 refine ⟨(StabL.anc rfl (StabL.anc rfl (StabL.anc rfl (StabL.anc rfl trivial)))), ?_⟩
 refine WT.a0 ?_
 refine Tp (.bool (!r42)) rfl (PO.not rfl) rfl ?_
 refine WT.fin ?_
 refine WQ.thenC ?_
 refine WC.cond (b := !r42) rfl (fun hb47 => ?_) (fun hb47 => ?_)
 have h := ite_t hb47 h
 refine Sr ?_
 refine Pu (pt g21 2) (PO.fieldAddr fo67_2 hs24_1 rfl) rfl ?_
 refine Pu (.int .i64 a0.Epoch) (PO.loadB 1 pl3 rfl rfl rfl) rfl ?_
 refine Pu (.agg #[(.string ⟨#[101, 112, 111, 99, 104]⟩), (.int .i64 a0.Epoch), (.int .i64 2)]) (PO.buildL (cl := [(.string ⟨#[101, 112, 111, 99, 104]⟩), (.int .i64 a0.Epoch), (.int .i64 2)]) ze33 fp33 (Parts.cons (congrArg Value.cells (show ev _ _ = (.string ⟨#[101, 112, 111, 99, 104]⟩) from rfl)) (Parts.cons (congrArg Value.cells (show ev _ _ = (.int .i64 a0.Epoch) from rfl)) (Parts.cons (congrArg Value.cells (show ev _ _ = (.int .i64 2) from rfl)) Parts.nil))) rfl) rfl ?_
 refine WL.eff (EO.storeL (v := (.agg #[(.string ⟨#[101, 112, 111, 99, 104]⟩), (.int .i64 a0.Epoch), (.int .i64 2)])) (vl := [(.string ⟨#[101, 112, 111, 99, 104]⟩), (.int .i64 a0.Epoch), (.int .i64 2)]) (arr' := [(.string ⟨#[101, 112, 111, 99, 104]⟩), (.int .i64 a0.Epoch), (.int .i64 2)]) rfl sz33 hs24_2 rfl (onesOf (Ones.cons rfl (Ones.cons rfl (Ones.cons rfl Ones.nil)))) rfl rfl rfl) rfl ?_
 rintro _ _ _ - ⟨rfl, rfl⟩
 refine Nt ?_
 refine WC.ret ?_
 refine WQ.thenR ?_
 refine WQ.f1 ?_
 refine WQ.drop ?_
 exact WQ.returnsD h [] (fun _ hs => hs.drop) (resultsL1 rfl (RV.cellA (cs := [(.string ⟨#[101, 112, 111, 99, 104]⟩), (.int .i64 a0.Epoch), (.int .i64 2)]) 0 ag33 sz33 hs24_2 rfl rfl)) ((((hle24.trans hle29).trans hle34).trans hle40).trans hle45) ⟨rfl, rfl⟩
 have h := ite_f hb47 h
 refine WC.skip ?_
 refine WQ.thenC ?_
 refine WC.seq ?_
 refine WC.seq ?_
 refine WC.draw [0, 1, 0, 4, 0, 0, 63, 127] (.pure 0 (.pure 1 (.pure 2 (.pure 4 (.pure 5 (.alt 3 (.alt 6 (.pure 7 .done) .none) .none)))))) mixed (by kernel_rfl) ?_
 refine Tp (pt g21 3) rfl (PO.fieldAddr fo67_3 hs24_1 rfl) rfl ?_
 refine Tp (.int .i64 a0.Topic) rfl (PO.loadB 1 pl3 rfl rfl rfl) rfl ?_
 refine Tp (.int .i64 a0.Kind) rfl (PO.move hs24_3) rfl ?_
 refine Tp (.int .i64 x23) rfl (PO.move hs24_5) rfl ?_
 refine Tp (.int .i64 1073741824) rfl (PO.move hs24_4) rfl ?_
 obtain ⟨r48, hr49, h⟩ := bnd h
 refine WT.alt rfl (EO.call0 co61 (f_ref05_has_ok a0.Kind (116 : Int) _ r48 hr49) (args2 rfl rfl)) rfl ?_ ?_
 rintro _ M50 _ hle51 ⟨_, ⟨rfl, rfl⟩, rfl⟩
 have h0_14 := h0_14.mono hle51
 have h0_15 := h0_15.mono hle51
 have h0_16 := h0_16.mono hle51
 have h0_17 := h0_17.mono hle51
 refine ⟨(StabL.st (StabA.of rfl (PO.move hs24_4) rfl) (StabL.st (StabA.of rfl (PO.move hs24_5) rfl) (StabL.anc rfl (StabL.st (StabA.of rfl (PO.loadB 1 pl3 rfl rfl rfl) rfl) (StabL.st (StabA.of rfl (PO.fieldAddr fo67_3 hs24_1 rfl) rfl) trivial))))), ?_⟩
 refine WT.a0 ?_
 obtain ⟨r53, hr54, h⟩ := bnd h
 refine WT.alt rfl (EO.call0 co99 (f_ref05_num_ok a0.Topic r48 x23 (1073741824 : Int) _ r53 hr54) (args4 rfl rfl rfl rfl)) rfl ?_ ?_
 rintro _ M55 _ hle56 ⟨_, ⟨rfl, rfl⟩, rfl⟩
 have h0_14 := h0_14.mono hle56
 have h0_15 := h0_15.mono hle56
 have h0_16 := h0_16.mono hle56
 have h0_17 := h0_17.mono hle56
 refine ⟨(StabL.anc rfl (StabL.anc rfl (StabL.anc rfl (StabL.anc rfl (StabL.anc rfl trivial))))), ?_⟩
 refine WT.a0 ?_
 refine Tp (.bool (!r53)) rfl (PO.not rfl) rfl ?_
 refine WT.fin ?_
 refine WQ.thenC ?_
 refine WC.cond (b := !r53) rfl (fun hb58 => ?_) (fun hb58 => ?_)
 have h := ite_t hb58 h
 refine Sr ?_
 refine Pu (pt g21 3) (PO.fieldAddr fo67_3 hs24_1 rfl) rfl ?_
 refine Pu (.int .i64 a0.Topic) (PO.loadB 1 pl3 rfl rfl rfl) rfl ?_
 refine Pu (.agg #[(.string ⟨#[116, 111, 112, 105, 99]⟩), (.int .i64 a0.Topic), (.int .i64 2)]) (PO.buildL (cl := [(.string ⟨#[116, 111, 112, 105, 99]⟩), (.int .i64 a0.Topic), (.int .i64 2)]) ze33 fp33 (Parts.cons (congrArg Value.cells (show ev _ _ = (.string ⟨#[116, 111, 112, 105, 99]⟩) from rfl)) (Parts.cons (congrArg Value.cells (show ev _ _ = (.int .i64 a0.Topic) from rfl)) (Parts.cons (congrArg Value.cells (show ev _ _ = (.int .i64 2) from rfl)) Parts.nil))) rfl) rfl ?_
 refine WL.eff (EO.storeL (v := (.agg #[(.string ⟨#[116, 111, 112, 105, 99]⟩), (.int .i64 a0.Topic), (.int .i64 2)])) (vl := [(.string ⟨#[116, 111, 112, 105, 99]⟩), (.int .i64 a0.Topic), (.int .i64 2)]) (arr' := [(.string ⟨#[116, 111, 112, 105, 99]⟩), (.int .i64 a0.Topic), (.int .i64 2)]) rfl sz33 hs24_2 rfl (onesOf (Ones.cons rfl (Ones.cons rfl (Ones.cons rfl Ones.nil)))) rfl rfl rfl) rfl ?_
 rintro _ _ _ - ⟨rfl, rfl⟩
 refine Nt ?_
 refine WC.ret ?_
 refine WQ.thenR ?_
 refine WQ.f1 ?_
 refine WQ.drop ?_
 exact WQ.returnsD h [] (fun _ hs => hs.drop) (resultsL1 rfl (RV.cellA (cs := [(.string ⟨#[116, 111, 112, 105, 99]⟩), (.int .i64 a0.Topic), (.int .i64 2)]) 0 ag33 sz33 hs24_2 rfl rfl)) ((((((hle24.trans hle29).trans hle34).trans hle40).trans hle45).trans hle51).trans hle56) ⟨rfl, rfl⟩
 have h := ite_f hb58 h
 refine WC.skip ?_
 refine WQ.thenC ?_
 refine WC.seq ?_
 refine WC.seq ?_
 refine WC.draw [0, 1, 0, 4, 15, 31] (.pure 0 (.pure 1 (.pure 2 (.alt 3 (.alt 4 (.pure 5 .done) .none) .none)))) mixed (by kernel_rfl) ?_
 refine Tp (pt g21 4) rfl (PO.fieldAddr fo67_4 hs24_1 rfl) rfl ?_
 refine Tp (.int .i64 a0.Part) rfl (PO.loadB 1 pl3 rfl rfl rfl) rfl ?_
 refine Tp (.int .i64 a0.Kind) rfl (PO.move hs24_3) rfl ?_
 obtain ⟨r59, hr60, h⟩ := bnd h
 refine WT.alt rfl (EO.call0 co61 (f_ref05_has_ok a0.Kind (112 : Int) _ r59 hr60) (args2 rfl rfl)) rfl ?_ ?_
 rintro _ M61 _ hle62 ⟨_, ⟨rfl, rfl⟩, rfl⟩
 have h0_14 := h0_14.mono hle62
 have h0_15 := h0_15.mono hle62
 have h0_16 := h0_16.mono hle62
 have h0_17 := h0_17.mono hle62
 refine ⟨(StabL.anc rfl (StabL.st (StabA.of rfl (PO.loadB 1 pl3 rfl rfl rfl) rfl) (StabL.st (StabA.of rfl (PO.fieldAddr fo67_4 hs24_1 rfl) rfl) trivial))), ?_⟩
 refine WT.a0 ?_
 obtain ⟨r64, hr65, h⟩ := bnd h
 refine WT.alt rfl (EO.call0 co99 (f_ref05_num_ok a0.Part r59 (0 : Int) (255 : Int) _ r64 hr65) (args4 rfl rfl rfl rfl)) rfl ?_ ?_
 rintro _ M66 _ hle67 ⟨_, ⟨rfl, rfl⟩, rfl⟩
 have h0_14 := h0_14.mono hle67
 have h0_15 := h0_15.mono hle67
 have h0_16 := h0_16.mono hle67
 have h0_17 := h0_17.mono hle67
 refine ⟨(StabL.anc rfl (StabL.anc rfl (StabL.anc rfl trivial))), ?_⟩
 refine WT.a0 ?_
 refine Tp (.bool (!r64)) rfl (PO.not rfl) rfl ?_
 refine WT.fin ?_
 refine WQ.thenC ?_
 refine WC.cond (b := !r64) rfl (fun hb69 => ?_) (fun hb69 => ?_)
 have h := ite_t hb69 h
 refine Sr ?_
 refine Pu (pt g21 4) (PO.fieldAddr fo67_4 hs24_1 rfl) rfl ?_
 refine Pu (.int .i64 a0.Part) (PO.loadB 1 pl3 rfl rfl rfl) rfl ?_
 refine Pu (.agg #[(.string ⟨#[112, 97, 114, 116]⟩), (.int .i64 a0.Part), (.int .i64 2)]) (PO.buildL (cl := [(.string ⟨#[112, 97, 114, 116]⟩), (.int .i64 a0.Part), (.int .i64 2)]) ze33 fp33 (Parts.cons (congrArg Value.cells (show ev _ _ = (.string ⟨#[112, 97, 114, 116]⟩) from rfl)) (Parts.cons (congrArg Value.cells (show ev _ _ = (.int .i64 a0.Part) from rfl)) (Parts.cons (congrArg Value.cells (show ev _ _ = (.int .i64 2) from rfl)) Parts.nil))) rfl) rfl ?_
 refine WL.eff (EO.storeL (v := (.agg #[(.string ⟨#[112, 97, 114, 116]⟩), (.int .i64 a0.Part), (.int .i64 2)])) (vl := [(.string ⟨#[112, 97, 114, 116]⟩), (.int .i64 a0.Part), (.int .i64 2)]) (arr' := [(.string ⟨#[112, 97, 114, 116]⟩), (.int .i64 a0.Part), (.int .i64 2)]) rfl sz33 hs24_2 rfl (onesOf (Ones.cons rfl (Ones.cons rfl (Ones.cons rfl Ones.nil)))) rfl rfl rfl) rfl ?_
 rintro _ _ _ - ⟨rfl, rfl⟩
 refine Nt ?_
 refine WC.ret ?_
 refine WQ.thenR ?_
 refine WQ.f1 ?_
 refine WQ.drop ?_
 exact WQ.returnsD h [] (fun _ hs => hs.drop) (resultsL1 rfl (RV.cellA (cs := [(.string ⟨#[112, 97, 114, 116]⟩), (.int .i64 a0.Part), (.int .i64 2)]) 0 ag33 sz33 hs24_2 rfl rfl)) ((((((((hle24.trans hle29).trans hle34).trans hle40).trans hle45).trans hle51).trans hle56).trans hle62).trans hle67) ⟨rfl, rfl⟩
 have h := ite_f hb69 h
 refine WC.skip ?_
 refine WQ.thenC ?_
 refine WC.seq ?_
 refine WC.seq ?_
 refine WC.draw [0, 1, 0, 4, 15, 31] (.pure 0 (.pure 1 (.pure 2 (.alt 3 (.alt 4 (.pure 5 .done) .none) .none)))) mixed (by kernel_rfl) ?_
 refine Tp (pt g21 5) rfl (PO.fieldAddr fo67_5 hs24_1 rfl) rfl ?_
 refine Tp (.int .i64 a0.Leader) rfl (PO.loadB 1 pl3 rfl rfl rfl) rfl ?_
 refine Tp (.int .i64 a0.Kind) rfl (PO.move hs24_3) rfl ?_
 obtain ⟨r70, hr71, h⟩ := bnd h
 refine WT.alt rfl (EO.call0 co61 (f_ref05_has_ok a0.Kind (108 : Int) _ r70 hr71) (args2 rfl rfl)) rfl ?_ ?_
 rintro _ M72 _ hle73 ⟨_, ⟨rfl, rfl⟩, rfl⟩
 have h0_14 := h0_14.mono hle73
 have h0_15 := h0_15.mono hle73
 have h0_16 := h0_16.mono hle73
 have h0_17 := h0_17.mono hle73
 refine ⟨(StabL.anc rfl (StabL.st (StabA.of rfl (PO.loadB 1 pl3 rfl rfl rfl) rfl) (StabL.st (StabA.of rfl (PO.fieldAddr fo67_5 hs24_1 rfl) rfl) trivial))), ?_⟩
 refine WT.a0 ?_
 obtain ⟨r75, hr76, h⟩ := bnd h
 refine WT.alt rfl (EO.call0 co99 (f_ref05_num_ok a0.Leader r70 (0 : Int) (64 : Int) _ r75 hr76) (args4 rfl rfl rfl rfl)) rfl ?_ ?_
 rintro _ M77 _ hle78 ⟨_, ⟨rfl, rfl⟩, rfl⟩
 have h0_14 := h0_14.mono hle78
 have h0_15 := h0_15.mono hle78
 have h0_16 := h0_16.mono hle78
 have h0_17 := h0_17.mono hle78
 refine ⟨(StabL.anc rfl (StabL.anc rfl (StabL.anc rfl trivial))), ?_⟩
 refine WT.a0 ?_
 refine Tp (.bool (!r75)) rfl (PO.not rfl) rfl ?_
 refine WT.fin ?_
 refine WQ.thenC ?_
 refine WC.cond (b := !r75) rfl (fun hb80 => ?_) (fun hb80 => ?_)
 have h := ite_t hb80 h
 refine Sr ?_
 refine Pu (pt g21 5) (PO.fieldAddr fo67_5 hs24_1 rfl) rfl ?_
 refine Pu (.int .i64 a0.Leader) (PO.loadB 1 pl3 rfl rfl rfl) rfl ?_
 refine Pu (.agg #[(.string ⟨#[108, 101, 97, 100, 101, 114]⟩), (.int .i64 a0.Leader), (.int .i64 2)]) (PO.buildL (cl := [(.string ⟨#[108, 101, 97, 100, 101, 114]⟩), (.int .i64 a0.Leader), (.int .i64 2)]) ze33 fp33 (Parts.cons (congrArg Value.cells (show ev _ _ = (.string ⟨#[108, 101, 97, 100, 101, 114]⟩) from rfl)) (Parts.cons (congrArg Value.cells (show ev _ _ = (.int .i64 a0.Leader) from rfl)) (Parts.cons (congrArg Value.cells (show ev _ _ = (.int .i64 2) from rfl)) Parts.nil))) rfl) rfl ?_
 refine WL.eff (EO.storeL (v := (.agg #[(.string ⟨#[108, 101, 97, 100, 101, 114]⟩), (.int .i64 a0.Leader), (.int .i64 2)])) (vl := [(.string ⟨#[108, 101, 97, 100, 101, 114]⟩), (.int .i64 a0.Leader), (.int .i64 2)]) (arr' := [(.string ⟨#[108, 101, 97, 100, 101, 114]⟩), (.int .i64 a0.Leader), (.int .i64 2)]) rfl sz33 hs24_2 rfl (onesOf (Ones.cons rfl (Ones.cons rfl (Ones.cons rfl Ones.nil)))) rfl rfl rfl) rfl ?_
 rintro _ _ _ - ⟨rfl, rfl⟩
 refine Nt ?_
 refine WC.ret ?_
 refine WQ.thenR ?_
 refine WQ.f1 ?_
 refine WQ.drop ?_
 exact WQ.returnsD h [] (fun _ hs => hs.drop) (resultsL1 rfl (RV.cellA (cs := [(.string ⟨#[108, 101, 97, 100, 101, 114]⟩), (.int .i64 a0.Leader), (.int .i64 2)]) 0 ag33 sz33 hs24_2 rfl rfl)) ((((((((((hle24.trans hle29).trans hle34).trans hle40).trans hle45).trans hle51).trans hle56).trans hle62).trans hle67).trans hle73).trans hle78) ⟨rfl, rfl⟩
 have h := ite_f hb80 h
 refine WC.skip ?_
 refine WQ.thenC ?_
 refine WC.seq ?_
 obtain ⟨x81, hj82, h⟩ := bnd h
 refine WC.joinF (fun (x81 : Bool) ρ' M' H' => M77.le M' ∧ [(g22, .cells #[(.string ⟨#[]⟩), (.int .i64 0), (.int .i64 0)] 33 (0, 0))] :: [(g21, .cells (l67 a0 v0_14 v0_15 v0_16 v0_17).toArray 67 (0, 0))] :: F = H' ∧ ρ' 1 = (pt g21 0) ∧ ρ' 2 = (pt g22 0) ∧ ρ' 81 = (.bool x81)) x81 ?_ ?_
 have h382 := h
 have h := hj82
 refine WC.draw [0, 1, 0, 4, 0, 31, 63, 127, 255, 511, 255, 1279, 255, 8191, 16383, 32767, 65535, 131071, 262143, 131071, 655359, 2097151, 4194303, 8388607] (.pure 0 (.pure 1 (.pure 2 (.pure 4 (.alt 3 (.alt 5 (.pure 6 (.pure 7 (.pure 8 (.pure 9 (.pure 10 (.pure 12 (.alt 11 (.alt 13 (.pure 14 (.pure 15 (.pure 16 (.pure 17 (.pure 18 (.pure 19 (.alt 20 (.alt 21 (.pure 22 (.pure 23 .done)) .none) .none))))))) .none) .none))))))) .none) .none))))) mixed (by kernel_rfl) ?_
 refine Tp (pt g21 6) rfl (PO.fieldAddr fo67_6 hs24_1 rfl) rfl ?_
 refine Tp (.int .i64 a0.Client) rfl (PO.loadB 1 pl3 rfl rfl rfl) rfl ?_
 refine Tp (.int .i64 a0.Kind) rfl (PO.move hs24_3) rfl ?_
 refine Tp (.int .i64 1073741824) rfl (PO.move hs24_4) rfl ?_
 obtain ⟨r83, hr84, h⟩ := bnd h
 refine WT.alt rfl (EO.call0 co61 (f_ref05_has_ok a0.Kind (97 : Int) _ r83 hr84) (args2 rfl rfl)) rfl ?_ ?_
 rintro _ M85 _ hle86 ⟨_, ⟨rfl, rfl⟩, rfl⟩
 have h0_14 := h0_14.mono hle86
 have h0_15 := h0_15.mono hle86
 have h0_16 := h0_16.mono hle86
 have h0_17 := h0_17.mono hle86
 refine ⟨(StabL.st (StabA.of rfl (PO.move hs24_4) rfl) (StabL.anc rfl (StabL.st (StabA.of rfl (PO.loadB 1 pl3 rfl rfl rfl) rfl) (StabL.st (StabA.of rfl (PO.fieldAddr fo67_6 hs24_1 rfl) rfl) trivial)))), ?_⟩
 refine WT.a0 ?_
 obtain ⟨r88, hr89, h⟩ := bnd h
 refine WT.alt rfl (EO.call0 co99 (f_ref05_num_ok a0.Client r83 (1 : Int) (1073741824 : Int) _ r88 hr89) (args4 rfl rfl rfl rfl)) rfl ?_ ?_
 rintro _ M90 _ hle91 ⟨_, ⟨rfl, rfl⟩, rfl⟩
 have h0_14 := h0_14.mono hle91
 have h0_15 := h0_15.mono hle91
 have h0_16 := h0_16.mono hle91
 have h0_17 := h0_17.mono hle91
 refine ⟨(StabL.anc rfl (StabL.anc rfl (StabL.anc rfl (StabL.anc rfl trivial)))), ?_⟩
 refine WT.a0 ?_
 refine Tp (.bool (!r88)) rfl (PO.not rfl) rfl ?_
 refine Tp (.bool (!r88)) rfl (PO.move rfl) rfl ?_
 rcases Bool.eq_false_or_eq_true (!r88) with hb93 | hb93
 have h := ite_t hb93 h
 refine WT.pureOff 65 rfl rfl rfl hb93 rfl ?_
 refine WT.pureOff 65 rfl rfl rfl hb93 rfl ?_
 refine WT.pureOff 65 rfl rfl rfl hb93 rfl ?_
 refine WT.pureOff 65 rfl rfl rfl hb93 rfl ?_
 refine WT.altOff 65 rfl rfl rfl hb93 rfl ⟨(StabL.st (StabA.off 65 rfl rfl rfl hb93 rfl) (StabL.anc rfl (StabL.st (StabA.off 65 rfl rfl rfl hb93 rfl) (StabL.st (StabA.off 65 rfl rfl rfl hb93 rfl) (StabL.anc rfl (StabL.anc rfl (StabL.anc rfl (StabL.anc rfl (StabL.anc rfl (StabL.anc rfl trivial)))))))))), ?_⟩ ?_
 refine WT.altOff 65 rfl rfl rfl hb93 rfl ⟨(StabL.anc rfl (StabL.anc rfl (StabL.anc rfl (StabL.anc rfl (StabL.anc rfl (StabL.anc rfl (StabL.anc rfl (StabL.anc rfl (StabL.anc rfl (StabL.anc rfl trivial)))))))))), ?_⟩ ?_
 refine WT.pureOff 65 rfl rfl rfl hb93 rfl ?_
 refine Tp (.bool true) rfl (PO.pickT rfl hb93 rfl) rfl ?_
 refine Tp (.bool true) rfl (PO.move rfl) rfl ?_
 refine WT.pureOff 74 rfl rfl rfl rfl rfl ?_
 refine WT.pureOff 74 rfl rfl rfl rfl rfl ?_
 refine WT.pureOff 74 rfl rfl rfl rfl rfl ?_
 refine WT.altOff 74 rfl rfl rfl rfl rfl ⟨(StabL.anc rfl (StabL.st (StabA.off 74 rfl rfl rfl rfl rfl) (StabL.st (StabA.off 74 rfl rfl rfl rfl rfl) (StabL.anc rfl (StabL.anc rfl (StabL.anc rfl (StabL.anc rfl (StabL.anc rfl (StabL.anc rfl (StabL.anc rfl (StabL.anc rfl (StabL.anc rfl (StabL.anc rfl (StabL.anc rfl (StabL.anc rfl (StabL.anc rfl trivial)))))))))))))))), ?_⟩ ?_
 refine WT.altOff 74 rfl rfl rfl rfl rfl ⟨(StabL.anc rfl (StabL.anc rfl (StabL.anc rfl (StabL.anc rfl (StabL.anc rfl (StabL.anc rfl (StabL.anc rfl (StabL.anc rfl (StabL.anc rfl (StabL.anc rfl (StabL.anc rfl (StabL.anc rfl (StabL.anc rfl (StabL.anc rfl (StabL.anc rfl (StabL.anc rfl trivial)))))))))))))))), ?_⟩ ?_
 refine WT.pureOff 74 rfl rfl rfl rfl rfl ?_
 refine Tp (.bool true) rfl (PO.pickT rfl rfl rfl) rfl ?_
 refine WT.fin ?_
 obtain rfl := Option.some.inj h
 refine WQ.thenJ ?_
 exact ⟨(hle86.trans hle91), rfl, hs24_1, hs24_2, rfl⟩
 exact WT.no
 exact WT.no
 exact WT.no
 exact WT.no
 have h := ite_f hb93 h
 refine Tn (pt g21 7) 65 rfl rfl rfl hb93 (PO.fieldAddr fo67_7 hs24_1 rfl) rfl ?_
 refine Tn (.int .i64 a0.Serial) 65 rfl rfl rfl hb93 (PO.loadB 1 pl3 rfl rfl rfl) rfl ?_
 refine Tn (.int .i64 a0.Kind) 65 rfl rfl rfl hb93 (PO.move hs24_3) rfl ?_
 refine Tn (.int .i64 1073741824) 65 rfl rfl rfl hb93 (PO.move hs24_4) rfl ?_
 obtain ⟨r94, hr95, h⟩ := bnd h
 refine WT.altOn 65 rfl rfl rfl hb93 (EO.call0 co61 (f_ref05_has_ok a0.Kind (97 : Int) _ r94 hr95) (args2 rfl rfl)) rfl ?_ ?_
 rintro _ M96 _ hle97 ⟨_, ⟨rfl, rfl⟩, rfl⟩
 have h0_14 := h0_14.mono hle97
 have h0_15 := h0_15.mono hle97
 have h0_16 := h0_16.mono hle97
 have h0_17 := h0_17.mono hle97
 refine ⟨(StabL.st (StabA.on 65 rfl rfl rfl hb93 (PO.move hs24_4) rfl) (StabL.anc rfl (StabL.st (StabA.on 65 rfl rfl rfl hb93 (PO.loadB 1 pl3 rfl rfl rfl) rfl) (StabL.st (StabA.on 65 rfl rfl rfl hb93 (PO.fieldAddr fo67_7 hs24_1 rfl) rfl) (StabL.anc rfl (StabL.anc rfl (StabL.anc rfl (StabL.anc rfl (StabL.anc rfl (StabL.anc rfl trivial)))))))))), ?_⟩
 refine WT.a0 ?_
 obtain ⟨r99, hr100, h⟩ := bnd h
 refine WT.altOn 65 rfl rfl rfl hb93 (EO.call0 co99 (f_ref05_num_ok a0.Serial r94 (1 : Int) (1073741824 : Int) _ r99 hr100) (args4 rfl rfl rfl rfl)) rfl ?_ ?_
 rintro _ M101 _ hle102 ⟨_, ⟨rfl, rfl⟩, rfl⟩
 have h0_14 := h0_14.mono hle102
 have h0_15 := h0_15.mono hle102
 have h0_16 := h0_16.mono hle102
 have h0_17 := h0_17.mono hle102
 refine ⟨(StabL.anc rfl (StabL.anc rfl (StabL.anc rfl (StabL.anc rfl (StabL.anc rfl (StabL.anc rfl (StabL.anc rfl (StabL.anc rfl (StabL.anc rfl (StabL.anc rfl trivial)))))))))), ?_⟩
 refine WT.a0 ?_
 refine Tn (.bool (!r99)) 65 rfl rfl rfl hb93 (PO.not rfl) rfl ?_
 refine Tp (.bool (!r99)) rfl (PO.pickF rfl hb93 rfl) rfl ?_
 refine Tp (.bool (!r99)) rfl (PO.move rfl) rfl ?_
 rcases Bool.eq_false_or_eq_true (!r99) with hb104 | hb104
 have h := ite_t hb104 h
 refine WT.pureOff 74 rfl rfl rfl hb104 rfl ?_
 refine WT.pureOff 74 rfl rfl rfl hb104 rfl ?_
 refine WT.pureOff 74 rfl rfl rfl hb104 rfl ?_
 refine WT.altOff 74 rfl rfl rfl hb104 rfl ⟨(StabL.anc rfl (StabL.st (StabA.off 74 rfl rfl rfl hb104 rfl) (StabL.st (StabA.off 74 rfl rfl rfl hb104 rfl) (StabL.anc rfl (StabL.anc rfl (StabL.anc rfl (StabL.anc rfl (StabL.anc rfl (StabL.anc rfl (StabL.anc rfl (StabL.anc rfl (StabL.anc rfl (StabL.anc rfl (StabL.anc rfl (StabL.anc rfl (StabL.anc rfl trivial)))))))))))))))), ?_⟩ ?_
 refine WT.altOff 74 rfl rfl rfl hb104 rfl ⟨(StabL.anc rfl (StabL.anc rfl (StabL.anc rfl (StabL.anc rfl (StabL.anc rfl (StabL.anc rfl (StabL.anc rfl (StabL.anc rfl (StabL.anc rfl (StabL.anc rfl (StabL.anc rfl (StabL.anc rfl (StabL.anc rfl (StabL.anc rfl (StabL.anc rfl (StabL.anc rfl trivial)))))))))))))))), ?_⟩ ?_
 refine WT.pureOff 74 rfl rfl rfl hb104 rfl ?_
 refine Tp (.bool true) rfl (PO.pickT rfl hb104 rfl) rfl ?_
 refine WT.fin ?_
 obtain rfl := Option.some.inj h
 refine WQ.thenJ ?_
 exact ⟨(((hle86.trans hle91).trans hle97).trans hle102), rfl, hs24_1, hs24_2, rfl⟩
 exact WT.no
 exact WT.no
 have h := ite_f hb104 h
 refine Tn (pt g21 8) 74 rfl rfl rfl hb104 (PO.fieldAddr fo67_8 hs24_1 rfl) rfl ?_
 refine Tn (.int .i64 a0.Code) 74 rfl rfl rfl hb104 (PO.loadB 1 pl3 rfl rfl rfl) rfl ?_
 refine Tn (.int .i64 a0.Kind) 74 rfl rfl rfl hb104 (PO.move hs24_3) rfl ?_
 obtain ⟨r105, hr106, h⟩ := bnd h
 refine WT.altOn 74 rfl rfl rfl hb104 (EO.call0 co61 (f_ref05_has_ok a0.Kind (97 : Int) _ r105 hr106) (args2 rfl rfl)) rfl ?_ ?_
 rintro _ M107 _ hle108 ⟨_, ⟨rfl, rfl⟩, rfl⟩
 have h0_14 := h0_14.mono hle108
 have h0_15 := h0_15.mono hle108
 have h0_16 := h0_16.mono hle108
 have h0_17 := h0_17.mono hle108
 refine ⟨(StabL.anc rfl (StabL.st (StabA.on 74 rfl rfl rfl hb104 (PO.loadB 1 pl3 rfl rfl rfl) rfl) (StabL.st (StabA.on 74 rfl rfl rfl hb104 (PO.fieldAddr fo67_8 hs24_1 rfl) rfl) (StabL.anc rfl (StabL.anc rfl (StabL.anc rfl (StabL.anc rfl (StabL.anc rfl (StabL.anc rfl (StabL.anc rfl (StabL.anc rfl (StabL.anc rfl (StabL.anc rfl (StabL.anc rfl (StabL.anc rfl (StabL.anc rfl trivial)))))))))))))))), ?_⟩
 refine WT.a0 ?_
 obtain ⟨r110, hr111, h⟩ := bnd h
 refine WT.altOn 74 rfl rfl rfl hb104 (EO.call0 co99 (f_ref05_num_ok a0.Code r105 (0 : Int) (21 : Int) _ r110 hr111) (args4 rfl rfl rfl rfl)) rfl ?_ ?_
 rintro _ M112 _ hle113 ⟨_, ⟨rfl, rfl⟩, rfl⟩
 have h0_14 := h0_14.mono hle113
 have h0_15 := h0_15.mono hle113
 have h0_16 := h0_16.mono hle113
 have h0_17 := h0_17.mono hle113
 refine ⟨(StabL.anc rfl (StabL.anc rfl (StabL.anc rfl (StabL.anc rfl (StabL.anc rfl (StabL.anc rfl (StabL.anc rfl (StabL.anc rfl (StabL.anc rfl (StabL.anc rfl (StabL.anc rfl (StabL.anc rfl (StabL.anc rfl (StabL.anc rfl (StabL.anc rfl (StabL.anc rfl trivial)))))))))))))))), ?_⟩
 refine WT.a0 ?_
 refine Tn (.bool (!r110)) 74 rfl rfl rfl hb104 (PO.not rfl) rfl ?_
 refine Tp (.bool (!r110)) rfl (PO.pickF rfl hb104 rfl) rfl ?_
 refine WT.fin ?_
 obtain rfl := Option.some.inj h
 refine WQ.thenJ ?_
 exact ⟨(((((hle86.trans hle91).trans hle97).trans hle102).trans hle108).trans hle113), rfl, hs24_1, hs24_2, rfl⟩
 exact WT.no
 exact WT.no
 exact WT.no
 exact WT.no
 exact WT.no
 exact WT.no
 rintro ρ82 M82 H82 ⟨hle82, rfl, hs82_1, hs82_2, hs82_81⟩
 have h0_14 := h0_14.mono hle82
 have h0_15 := h0_15.mono hle82
 have h0_16 := h0_16.mono hle82
 have h0_17 := h0_17.mono hle82
 refine WC.cond (b := x81) hs82_81 (fun hb115 => ?_) (fun hb115 => ?_)
 have h := ite_t hb115 h
 refine Sr ?_
 refine Pu (pt g21 6) (PO.fieldAddr fo67_6 hs82_1 rfl) rfl ?_
 refine Pu (.int .i64 a0.Client) (PO.loadB 1 pl3 rfl rfl rfl) rfl ?_
 refine Pu (.agg #[(.string ⟨#[97, 115, 107, 101, 114]⟩), (.int .i64 a0.Client), (.int .i64 2)]) (PO.buildL (cl := [(.string ⟨#[97, 115, 107, 101, 114]⟩), (.int .i64 a0.Client), (.int .i64 2)]) ze33 fp33 (Parts.cons (congrArg Value.cells (show ev _ _ = (.string ⟨#[97, 115, 107, 101, 114]⟩) from rfl)) (Parts.cons (congrArg Value.cells (show ev _ _ = (.int .i64 a0.Client) from rfl)) (Parts.cons (congrArg Value.cells (show ev _ _ = (.int .i64 2) from rfl)) Parts.nil))) rfl) rfl ?_
 refine WL.eff (EO.storeL (v := (.agg #[(.string ⟨#[97, 115, 107, 101, 114]⟩), (.int .i64 a0.Client), (.int .i64 2)])) (vl := [(.string ⟨#[97, 115, 107, 101, 114]⟩), (.int .i64 a0.Client), (.int .i64 2)]) (arr' := [(.string ⟨#[97, 115, 107, 101, 114]⟩), (.int .i64 a0.Client), (.int .i64 2)]) rfl sz33 hs82_2 rfl (onesOf (Ones.cons rfl (Ones.cons rfl (Ones.cons rfl Ones.nil)))) rfl rfl rfl) rfl ?_
 rintro _ _ _ - ⟨rfl, rfl⟩
 refine Nt ?_
 refine WC.ret ?_
 refine WQ.thenR ?_
 refine WQ.f1 ?_
 refine WQ.drop ?_
 exact WQ.returnsD h [] (fun _ hs => hs.drop) (resultsL1 rfl (RV.cellA (cs := [(.string ⟨#[97, 115, 107, 101, 114]⟩), (.int .i64 a0.Client), (.int .i64 2)]) 0 ag33 sz33 hs82_2 rfl rfl)) (((((((((((hle24.trans hle29).trans hle34).trans hle40).trans hle45).trans hle51).trans hle56).trans hle62).trans hle67).trans hle73).trans hle78).trans hle82) ⟨rfl, rfl⟩
 have h := ite_f hb115 h
 refine WC.skip ?_
 refine WQ.thenC ?_
 refine Sr ?_
 refine Pu (.agg #[(.string ⟨#[]⟩), (.int .i64 0), (.int .i64 0)]) (PO.buildL (cl := [(.string ⟨#[]⟩), (.int .i64 0), (.int .i64 0)]) ze33 fp33 Parts.nil rfl) rfl ?_
 refine WL.eff (EO.storeL (v := (.agg #[(.string ⟨#[]⟩), (.int .i64 0), (.int .i64 0)])) (vl := [(.string ⟨#[]⟩), (.int .i64 0), (.int .i64 0)]) (arr' := [(.string ⟨#[]⟩), (.int .i64 0), (.int .i64 0)]) rfl sz33 hs82_2 rfl (onesOf (Ones.cons rfl (Ones.cons rfl (Ones.cons rfl Ones.nil)))) rfl rfl rfl) rfl ?_
 rintro _ _ _ - ⟨rfl, rfl⟩
 refine Nt ?_
 refine WC.ret ?_
 refine WQ.f1 ?_
 refine WQ.drop ?_
 exact WQ.returnsD h [] (fun _ hs => hs.drop) (resultsL1 rfl (RV.cellA (cs := [(.string ⟨#[]⟩), (.int .i64 0), (.int .i64 0)]) 0 ag33 sz33 hs82_2 rfl rfl)) (((((((((((hle24.trans hle29).trans hle34).trans hle40).trans hle45).trans hle51).trans hle56).trans hle62).trans hle67).trans hle73).trans hle78).trans hle82) ⟨rfl, rfl⟩
 exact WT.no
 exact WT.no
 exact WT.no
 exact WT.no
 exact WT.no
 exact WT.no
 exact WT.no
 exact WT.no
 exact WT.no
 exact WT.no


end Go.Proofs.YtjiffdgidodebaaGreatDoor.G
