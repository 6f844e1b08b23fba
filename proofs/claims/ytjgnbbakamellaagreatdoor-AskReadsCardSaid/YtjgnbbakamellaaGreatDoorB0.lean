/- Go functions: what they come to, and that they do. Printed by a program of the session (gen). -/
import Derived.Test.YtjgnbbakamellaaGreatDoorBF
import Derived.Test.YtjgnbbakamellaaGreatDoorKConv
import Derived.Test.YtjgnbbakamellaaGreatDoorKEq2
set_option linter.unusedVariables false
set_option linter.unusedSimpArgs false
set_option maxHeartbeats 8000000
set_option maxRecDepth 100000
namespace Go.Proofs.YtjgnbbakamellaaGreatDoor.G
open Go Go.KK

noncomputable def f_ask_about (a0 : Int) : Option Int :=
  (if (decide (a0 = (1 : Int))) = true then (some (13 : Int)) else (if (decide (a0 = (2 : Int))) = true then (some (1 : Int)) else (if (decide (a0 = (3 : Int))) = true then (some (5 : Int)) else (if (decide (a0 = (4 : Int))) = true then (some (3 : Int)) else (if (decide (a0 = (5 : Int))) = true then (some (49 : Int)) else (((if (decide (a0 = (6 : Int))) = true then (some (decide (a0 = (6 : Int)))) else (some (decide (a0 = (7 : Int))))) : Option Bool).bind fun (x26 : Bool) => (if x26 = true then (some (17 : Int)) else (if (decide (a0 = (8 : Int))) = true then (some (64 : Int)) else (if (decide (a0 = (9 : Int))) = true then (some (448 : Int)) else (if (decide (a0 = (10 : Int))) = true then (some (512 : Int)) else (if (decide (a0 = (11 : Int))) = true then (some (241 : Int)) else (some (-1 : Int)))))))))))))
def f_ask_about_post (a0 : Int) : Int → Value → IM → HL → Prop :=
  fun (r0 : Int) (v : Value) (M' : IM) (H' : HL) => (.int .i64 r0) = v ∧ H' = []
theorem f_ask_about_ok (a0 : Int) (M : IM) (res : Int) (h : f_ask_about a0 = some res) :
    Tri Tryz.prog 21 #[(.int .i64 a0)] M [] (f_ask_about_post a0 res) := by
 unfold f_ask_about at h
 refine Tri.enter (fn := Tryz.f21) Tryz.func21 rfl (Nat.le_of_ble_eq_true rfl) ?_
 intro F ρ hρ
 refine Sr ?_
 refine Pa (.int .i64 0) rfl rfl ?_
 refine Nt ?_
 refine WC.seq ?_
 refine Sr ?_
 refine Pm (.int .i64 a0) (hρ 0) rfl ?_
 refine Nt ?_
 refine WC.block ?_
 refine Sr ?_
 refine Pu (.bool (decide (a0 = 1))) (PO.eql rfl rfl) rfl ?_
 refine Pa (.bool (decide (a0 = 1))) rfl rfl ?_
 refine Nt ?_
 refine WC.cond (b := decide (a0 = 1)) rfl (fun hb21 => ?_) (fun hb21 => ?_)
 have h := ite_t hb21 h
 refine Sr ?_
 refine Pa (.int .i64 13) rfl rfl ?_
 refine Nt ?_
 refine WC.ret ?_
 refine WQ.blockR ?_
 refine WQ.thenR ?_
 exact WQ.returnsF h [] rfl (results1 rfl rfl) (IM.le.refl _) ⟨rfl, rfl⟩
 have h := ite_f hb21 h
 refine Sr ?_
 refine Pu (.bool (decide (a0 = 2))) (PO.eql rfl rfl) rfl ?_
 refine Pa (.bool (decide (a0 = 2))) rfl rfl ?_
 refine Nt ?_
 refine WC.cond (b := decide (a0 = 2)) rfl (fun hb22 => ?_) (fun hb22 => ?_)
 have h := ite_t hb22 h
 refine Sr ?_
 refine Pa (.int .i64 1) rfl rfl ?_
 refine Nt ?_
 refine WC.ret ?_
 refine WQ.blockR ?_
 refine WQ.thenR ?_
 exact WQ.returnsF h [] rfl (results1 rfl rfl) (IM.le.refl _) ⟨rfl, rfl⟩
 have h := ite_f hb22 h
 refine Sr ?_
 refine Pu (.bool (decide (a0 = 3))) (PO.eql rfl rfl) rfl ?_
 refine Pa (.bool (decide (a0 = 3))) rfl rfl ?_
 refine Nt ?_
 refine WC.cond (b := decide (a0 = 3)) rfl (fun hb23 => ?_) (fun hb23 => ?_)
 have h := ite_t hb23 h
 refine Sr ?_
 refine Pa (.int .i64 5) rfl rfl ?_
 refine Nt ?_
 refine WC.ret ?_
 refine WQ.blockR ?_
 refine WQ.thenR ?_
 exact WQ.returnsF h [] rfl (results1 rfl rfl) (IM.le.refl _) ⟨rfl, rfl⟩
 have h := ite_f hb23 h
 refine Sr ?_
 refine Pu (.bool (decide (a0 = 4))) (PO.eql rfl rfl) rfl ?_
 refine Pa (.bool (decide (a0 = 4))) rfl rfl ?_
 refine Nt ?_
 refine WC.cond (b := decide (a0 = 4)) rfl (fun hb24 => ?_) (fun hb24 => ?_)
 have h := ite_t hb24 h
 refine Sr ?_
 refine Pa (.int .i64 3) rfl rfl ?_
 refine Nt ?_
 refine WC.ret ?_
 refine WQ.blockR ?_
 refine WQ.thenR ?_
 exact WQ.returnsF h [] rfl (results1 rfl rfl) (IM.le.refl _) ⟨rfl, rfl⟩
 have h := ite_f hb24 h
 refine Sr ?_
 refine Pu (.bool (decide (a0 = 5))) (PO.eql rfl rfl) rfl ?_
 refine Pa (.bool (decide (a0 = 5))) rfl rfl ?_
 refine Nt ?_
 refine WC.cond (b := decide (a0 = 5)) rfl (fun hb25 => ?_) (fun hb25 => ?_)
 have h := ite_t hb25 h
 refine Sr ?_
 refine Pa (.int .i64 49) rfl rfl ?_
 refine Nt ?_
 refine WC.ret ?_
 refine WQ.blockR ?_
 refine WQ.thenR ?_
 exact WQ.returnsF h [] rfl (results1 rfl rfl) (IM.le.refl _) ⟨rfl, rfl⟩
 have h := ite_f hb25 h
 obtain ⟨x26, hj27, h⟩ := bnd h
 refine WC.joinF (fun (x26 : Bool) ρ' M' H' => M.le M' ∧ F = H' ∧ ρ' 3 = (.int .i64 a0) ∧ ρ' 14 = (.bool x26)) x26 ?_ ?_
 have h327 := h
 have h := hj27
 refine Sr ?_
 refine Pu (.bool (decide (a0 = 6))) (PO.eql rfl rfl) rfl ?_
 refine Pa (.bool (decide (a0 = 6))) rfl rfl ?_
 refine Nt ?_
 refine WC.cond (b := decide (a0 = 6)) rfl (fun hb28 => ?_) (fun hb28 => ?_)
 have h := ite_t hb28 h
 refine WC.skip ?_
 obtain rfl := Option.some.inj h
 refine WQ.thenJ ?_
 exact ⟨(IM.le.refl _), rfl, rfl, rfl⟩
 have h := ite_f hb28 h
 refine WC.region ?_
 refine Pu (.bool (decide (a0 = 7))) (PO.eql rfl rfl) rfl ?_
 refine Pa (.bool (decide (a0 = 7))) rfl rfl ?_
 refine WL.nil ?_
 obtain rfl := Option.some.inj h
 refine WQ.thenJ ?_
 exact ⟨(IM.le.refl _), rfl, rfl, rfl⟩
 rintro ρ27 M27 H27 ⟨hle27, rfl, hs27_3, hs27_14⟩
 refine WC.cond (b := x26) hs27_14 (fun hb29 => ?_) (fun hb29 => ?_)
 have h := ite_t hb29 h
 refine Sr ?_
 refine Pa (.int .i64 17) rfl rfl ?_
 refine Nt ?_
 refine WC.ret ?_
 refine WQ.blockR ?_
 refine WQ.thenR ?_
 exact WQ.returnsF h [] rfl (results1 rfl rfl) hle27 ⟨rfl, rfl⟩
 have h := ite_f hb29 h
 refine Sr ?_
 refine Pu (.bool (decide (a0 = 8))) (PO.eql hs27_3 rfl) rfl ?_
 refine Pa (.bool (decide (a0 = 8))) rfl rfl ?_
 refine Nt ?_
 refine WC.cond (b := decide (a0 = 8)) rfl (fun hb30 => ?_) (fun hb30 => ?_)
 have h := ite_t hb30 h
 refine Sr ?_
 refine Pa (.int .i64 64) rfl rfl ?_
 refine Nt ?_
 refine WC.ret ?_
 refine WQ.blockR ?_
 refine WQ.thenR ?_
 exact WQ.returnsF h [] rfl (results1 rfl rfl) hle27 ⟨rfl, rfl⟩
 have h := ite_f hb30 h
 refine Sr ?_
 refine Pu (.bool (decide (a0 = 9))) (PO.eql hs27_3 rfl) rfl ?_
 refine Pa (.bool (decide (a0 = 9))) rfl rfl ?_
 refine Nt ?_
 refine WC.cond (b := decide (a0 = 9)) rfl (fun hb31 => ?_) (fun hb31 => ?_)
 have h := ite_t hb31 h
 refine Sr ?_
 refine Pa (.int .i64 448) rfl rfl ?_
 refine Nt ?_
 refine WC.ret ?_
 refine WQ.blockR ?_
 refine WQ.thenR ?_
 exact WQ.returnsF h [] rfl (results1 rfl rfl) hle27 ⟨rfl, rfl⟩
 have h := ite_f hb31 h
 refine Sr ?_
 refine Pu (.bool (decide (a0 = 10))) (PO.eql hs27_3 rfl) rfl ?_
 refine Pa (.bool (decide (a0 = 10))) rfl rfl ?_
 refine Nt ?_
 refine WC.cond (b := decide (a0 = 10)) rfl (fun hb32 => ?_) (fun hb32 => ?_)
 have h := ite_t hb32 h
 refine Sr ?_
 refine Pa (.int .i64 512) rfl rfl ?_
 refine Nt ?_
 refine WC.ret ?_
 refine WQ.blockR ?_
 refine WQ.thenR ?_
 exact WQ.returnsF h [] rfl (results1 rfl rfl) hle27 ⟨rfl, rfl⟩
 have h := ite_f hb32 h
 refine Sr ?_
 refine Pu (.bool (decide (a0 = 11))) (PO.eql hs27_3 rfl) rfl ?_
 refine Pa (.bool (decide (a0 = 11))) rfl rfl ?_
 refine Nt ?_
 refine WC.cond (b := decide (a0 = 11)) rfl (fun hb33 => ?_) (fun hb33 => ?_)
 have h := ite_t hb33 h
 refine Sr ?_
 refine Pa (.int .i64 241) rfl rfl ?_
 refine Nt ?_
 refine WC.ret ?_
 refine WQ.blockR ?_
 refine WQ.thenR ?_
 exact WQ.returnsF h [] rfl (results1 rfl rfl) hle27 ⟨rfl, rfl⟩
 have h := ite_f hb33 h
 refine WC.skip ?_
 refine WQ.blockN ?_
 refine WQ.thenC ?_
 refine Sr ?_
 refine Pa (.int .i64 (-1 : Int)) rfl rfl ?_
 refine Nt ?_
 refine WC.ret ?_
 exact WQ.returnsF h [] rfl (results1 rfl rfl) hle27 ⟨rfl, rfl⟩

noncomputable def f_fault_New (a0 : ByteArray) (a1 : Int) (a2 : Int) : Option GErr :=
  (some (GErr.fault a0 a1 (GErr.code a2)))
def f_fault_New_post (a0 : ByteArray) (a1 : Int) (a2 : Int) : GErr → Value → IM → HL → Prop :=
  fun (r0 : GErr) (v : Value) (M' : IM) (H' : HL) => (GV r0) = v ∧ H' = []
theorem f_fault_New_ok (a0 : ByteArray) (a1 : Int) (a2 : Int) (M : IM) (res : GErr) (h : f_fault_New a0 a1 a2 = some res) :
    Tri Tryz.prog 17 #[(.string a0), (.int .i64 a1), (.int .i64 a2)] M [] (f_fault_New_post a0 a1 a2 res) := by
 unfold f_fault_New at h
 refine Tri.enter (fn := Tryz.f17) Tryz.func17 rfl (Nat.le_of_ble_eq_true rfl) ?_
 intro F ρ hρ
 refine Sr ?_
 refine Pa (GV GErr.nil) rfl rfl ?_
 refine Ns ?_
 refine Pm (.string a0) (hρ 0) rfl ?_
 refine Pm (.int .i64 a1) (hρ 1) rfl ?_
 refine Pm (.int .i64 a2) (hρ 2) rfl ?_
 refine Pu (GV (GErr.code a2)) (PO.makeInterface cc35 rfl) rfl ?_
 refine Pu (.agg #[(.string a0), (.int .i64 a1), (GV (GErr.code a2))]) (PO.buildL (cl := [(.string a0), (.int .i64 a1), (GV (GErr.code a2))]) ze98 fp98 (Parts.cons (congrArg Value.cells (show ev _ _ = (.string a0) from rfl)) (Parts.cons (congrArg Value.cells (show ev _ _ = (.int .i64 a1) from rfl)) (Parts.cons ((congrArg Value.cells (show ev _ _ = (GV (GErr.code a2)) from rfl)).trans (GErr.val_cells _ _ _ _)) Parts.nil))) rfl) rfl ?_
 refine Pu (GV (GErr.fault a0 a1 (GErr.code a2))) (PO.makeInterface cc98 rfl) rfl ?_
 refine Pa (GV (GErr.fault a0 a1 (GErr.code a2))) rfl rfl ?_
 refine Nt ?_
 refine WC.ret ?_
 exact WQ.returnsF h [] rfl (results1 rfl rfl) (IM.le.refl _) ⟨rfl, rfl⟩

noncomputable def f_ask_Check_1 (a0 : Int) (a1 : Int) : Option Bool :=
  (some (decide ((andI .i64 a1 a0) ≠ (0 : Int))))
def f_ask_Check_1_post (a0 : Int) (a1 : Int) (g1 : Nat) : Bool → Value → IM → HL → Prop :=
  fun (r0 : Bool) (v : Value) (M' : IM) (H' : HL) => (.bool r0) = v ∧ H' = [[(g1, .cells #[(.int .i64 a1)] 3 (0, 0))]]
theorem f_ask_Check_1_ok (a0 : Int) (a1 : Int) (M : IM) (g1 : Nat) (res : Bool) (h : f_ask_Check_1 a0 a1 = some res) :
    Tri Tryz.prog 53 #[(.int .i64 a0), (pt g1 0)] M [[(g1, .cells #[(.int .i64 a1)] 3 (0, 0))]] (f_ask_Check_1_post a0 a1 g1 res) := by
 unfold f_ask_Check_1 at h
 refine Tri.enter (fn := Tryz.f53) Tryz.func53 rfl (Nat.le_of_ble_eq_true rfl) ?_
 intro F ρ hρ
 refine Sr ?_
 refine Pa (.bool false) rfl rfl ?_
 refine Ns ?_
 refine Pu (.int .i64 a1) (PO.loadB 0 pl3 (hρ 1) rfl rfl) rfl ?_
 refine Pm (.int .i64 a0) (hρ 0) rfl ?_
 refine Pu (.int .i64 (andI .i64 a1 a0)) (PO.and rfl rfl) rfl ?_
 refine Pu (.bool (decide ((andI .i64 a1 a0) ≠ 0))) (PO.neq rfl rfl) rfl ?_
 refine Pa (.bool (decide ((andI .i64 a1 a0) ≠ 0))) rfl rfl ?_
 refine Nt ?_
 refine WC.ret ?_
 exact WQ.returnsF h [[(g1, .cells #[(.int .i64 a1)] 3 (0, 0))]] rfl (results1 rfl rfl) (IM.le.refl _) ⟨rfl, rfl⟩

noncomputable def f_ask_text (a0 : ByteArray) (a1 : Bool) (a2 : Int) : Option Bool :=
  (if (!a1) = true then (some (decide (a0 = (⟨#[]⟩ : ByteArray)))) else (some (decide ((a0.size : Int) ≤ a2))))
def f_ask_text_post (a0 : ByteArray) (a1 : Bool) (a2 : Int) : Bool → Value → IM → HL → Prop :=
  fun (r0 : Bool) (v : Value) (M' : IM) (H' : HL) => (.bool r0) = v ∧ H' = []
theorem f_ask_text_ok (a0 : ByteArray) (a1 : Bool) (a2 : Int) (M : IM) (res : Bool) (h : f_ask_text a0 a1 a2 = some res) :
    Tri Tryz.prog 54 #[(.string a0), (.bool a1), (.int .i64 a2)] M [] (f_ask_text_post a0 a1 a2 res) := by
 unfold f_ask_text at h
 refine Tri.enter (fn := Tryz.f54) Tryz.func54 rfl (Nat.le_of_ble_eq_true rfl) ?_
 intro F ρ hρ
 refine Sr ?_
 refine Pa (.bool false) rfl rfl ?_
 refine Nt ?_
 refine WC.seq ?_
 refine Sr ?_
 refine Pm (.bool a1) (hρ 1) rfl ?_
 refine Pu (.bool (!a1)) (PO.not rfl) rfl ?_
 refine Nt ?_
 refine WC.cond (b := !a1) rfl (fun hb21 => ?_) (fun hb21 => ?_)
 have h := ite_t hb21 h
 refine Sr ?_
 refine Pm (.string a0) (hρ 0) rfl ?_
 refine Pu (.bool (decide (a0 = (⟨#[]⟩ : ByteArray)))) (PO.seql rfl rfl) rfl ?_
 refine Pa (.bool (decide (a0 = (⟨#[]⟩ : ByteArray)))) rfl rfl ?_
 refine Nt ?_
 refine WC.ret ?_
 refine WQ.thenR ?_
 exact WQ.returnsF h [] rfl (results1 rfl rfl) (IM.le.refl _) ⟨rfl, rfl⟩
 have h := ite_f hb21 h
 refine WC.skip ?_
 refine WQ.thenC ?_
 refine Sr ?_
 refine Pm (.string a0) (hρ 0) rfl ?_
 refine Pu (.int .i64 (a0.size : Int)) (PO.lenStr Tryz.underlying9 rfl) rfl ?_
 refine Pm (.int .i64 a2) (hρ 2) rfl ?_
 refine Pu (.bool (decide ((a0.size : Int) ≤ a2))) (PO.leq rfl rfl) rfl ?_
 refine Pa (.bool (decide ((a0.size : Int) ≤ a2))) rfl rfl ?_
 refine Nt ?_
 refine WC.ret ?_
 exact WQ.returnsF h [] rfl (results1 rfl rfl) (IM.le.refl _) ⟨rfl, rfl⟩

noncomputable def f_ask_number (a0 : Int) (a1 : Bool) (a2 : Int) : Option Bool :=
  (if (!a1) = true then (some (decide (a0 = (0 : Int)))) else (((if (decide ((0 : Int) ≤ a0)) = true then (some (decide (a0 ≤ a2))) else (some false)) : Option Bool).bind fun (x22 : Bool) => (some x22)))
def f_ask_number_post (a0 : Int) (a1 : Bool) (a2 : Int) : Bool → Value → IM → HL → Prop :=
  fun (r0 : Bool) (v : Value) (M' : IM) (H' : HL) => (.bool r0) = v ∧ H' = []
theorem f_ask_number_ok (a0 : Int) (a1 : Bool) (a2 : Int) (M : IM) (res : Bool) (h : f_ask_number a0 a1 a2 = some res) :
    Tri Tryz.prog 55 #[(.int .i64 a0), (.bool a1), (.int .i64 a2)] M [] (f_ask_number_post a0 a1 a2 res) := by
 unfold f_ask_number at h
 refine Tri.enter (fn := Tryz.f55) Tryz.func55 rfl (Nat.le_of_ble_eq_true rfl) ?_
 intro F ρ hρ
 refine Sr ?_
 refine Pa (.bool false) rfl rfl ?_
 refine Nt ?_
 refine WC.seq ?_
 refine Sr ?_
 refine Pm (.bool a1) (hρ 1) rfl ?_
 refine Pu (.bool (!a1)) (PO.not rfl) rfl ?_
 refine Nt ?_
 refine WC.cond (b := !a1) rfl (fun hb21 => ?_) (fun hb21 => ?_)
 have h := ite_t hb21 h
 refine Sr ?_
 refine Pm (.int .i64 a0) (hρ 0) rfl ?_
 refine Pu (.bool (decide (a0 = 0))) (PO.eql rfl rfl) rfl ?_
 refine Pa (.bool (decide (a0 = 0))) rfl rfl ?_
 refine Nt ?_
 refine WC.ret ?_
 refine WQ.thenR ?_
 exact WQ.returnsF h [] rfl (results1 rfl rfl) (IM.le.refl _) ⟨rfl, rfl⟩
 have h := ite_f hb21 h
 refine WC.skip ?_
 refine WQ.thenC ?_
 obtain ⟨x22, hj23, h⟩ := bnd h
 refine WC.joinF (fun (x22 : Bool) ρ' M' H' => M.le M' ∧ F = H' ∧ ρ' 6 = (.bool x22)) x22 ?_ ?_
 have h323 := h
 have h := hj23
 refine WC.region ?_
 refine Pm (.int .i64 a0) (hρ 0) rfl ?_
 refine Pu (.bool (decide ((0 : Int) ≤ a0))) (PO.geq rfl rfl) rfl ?_
 refine Pm (.bool (decide ((0 : Int) ≤ a0))) rfl rfl ?_
 rcases Bool.eq_false_or_eq_true (decide ((0 : Int) ≤ a0)) with hb24 | hb24
 have h := ite_t hb24 h
 refine On 13 rfl rfl hb24 ?_
 refine Pm (.int .i64 a0) (hρ 0) rfl ?_
 refine On 13 rfl rfl hb24 ?_
 refine Pm (.int .i64 a2) (hρ 2) rfl ?_
 refine On 13 rfl rfl hb24 ?_
 refine Pu (.bool (decide (a0 ≤ a2))) (PO.leq rfl rfl) rfl ?_
 refine Pu (.bool (decide (a0 ≤ a2))) (PO.pickT rfl hb24 rfl) rfl ?_
 refine Pa (.bool (decide (a0 ≤ a2))) rfl rfl ?_
 refine WL.nil ?_
 obtain rfl := Option.some.inj h
 refine WQ.thenJ ?_
 exact ⟨(IM.le.refl _), rfl, rfl⟩
 have h := ite_f hb24 h
 iterate 3 refine Of 13 rfl rfl hb24 rfl ?_
 refine Pu (.bool false) (PO.pickF rfl hb24 rfl) rfl ?_
 refine Pa (.bool false) rfl rfl ?_
 refine WL.nil ?_
 obtain rfl := Option.some.inj h
 refine WQ.thenJ ?_
 exact ⟨(IM.le.refl _), rfl, rfl⟩
 rintro ρ23 M23 H23 ⟨hle23, rfl, hs23_6⟩
 refine WC.ret ?_
 exact WQ.returnsF h [] rfl (results1 rfl hs23_6) hle23 ⟨rfl, rfl⟩

noncomputable def f_ask_said (a0 : T_api_Word) (a1 : Bool) : Option Bool :=
  (if (!a1) = true then (some (andL [decide (a0.Broker = (0 : Int)), decide (a0.Epoch = (0 : Int)), decide (a0.High = (0 : Int)), a0.Fence == false, a0.Leave == false])) else (((if (decide ((1 : Int) ≤ a0.Broker)) = true then (if (decide (a0.Broker ≤ (64 : Int))) = true then (if (decide ((0 : Int) ≤ a0.Epoch)) = true then (if (decide (a0.Epoch ≤ (1073741824 : Int))) = true then (if (decide ((0 : Int) ≤ a0.High)) = true then (some (decide (a0.High ≤ (1073741824 : Int)))) else (some false)) else (some false)) else (some false)) else (some false)) else (some false)) : Option Bool).bind fun (x23 : Bool) => (some x23)))
def f_ask_said_post (a0 : T_api_Word) (a1 : Bool) : Bool → Value → IM → HL → Prop :=
  fun (r0 : Bool) (v : Value) (M' : IM) (H' : HL) => (.bool r0) = v ∧ H' = []
theorem f_ask_said_ok (a0 : T_api_Word) (a1 : Bool) (M : IM) (res : Bool) (h : f_ask_said a0 a1 = some res) :
    Tri Tryz.prog 56 #[(a26_ a0), (.bool a1)] M [] (f_ask_said_post a0 a1 res) := by
 unfold f_ask_said at h
 refine Tri.enter (fn := Tryz.f56) Tryz.func56 rfl (Nat.le_of_ble_eq_true rfl) ?_
 intro F ρ hρ
 refine Sr ?_
 refine WL.eff (EO.box (cs := (l26 a0).toArray) (congrArg Value.cells (asE (a26_ a0) (hρ 0)))) rfl ?_
 rintro _ _ _ - ⟨rfl, g21, rfl, rfl⟩
 refine Pa (.bool false) rfl rfl ?_
 refine Nt ?_
 refine WC.seq ?_
 refine Sr ?_
 refine Pm (.bool a1) (hρ 1) rfl ?_
 refine Pu (.bool (!a1)) (PO.not rfl) rfl ?_
 refine Nt ?_
 refine WC.cond (b := !a1) rfl (fun hb22 => ?_) (fun hb22 => ?_)
 have h := ite_t hb22 h
 refine Sr ?_
 refine Pu (a26_ a0) (PO.loadBA (cs := (l26 a0)) 0 ag26 sz26 rfl rfl rfl) rfl ?_
 refine Pu (.agg z26_.toArray) (PO.buildL (cl := z26_) ze26 fp26 Parts.nil rfl) rfl ?_
 refine Pu (.bool (andL [decide (a0.Broker = 0), decide (a0.Epoch = 0), decide (a0.High = 0), a0.Fence == false, a0.Leave == false])) (PO.eqAgg eg26 rfl rfl (run_equal_struct Tryz.underlying26 eq26 (EqFs.cons (by decide) pl3 rfl rfl (EqC.int Tryz.underlying3) (EqFs.cons (by decide) pl3 rfl rfl (EqC.int Tryz.underlying3) (EqFs.cons (by decide) pl3 rfl rfl (EqC.int Tryz.underlying3) (EqFs.cons (by decide) pl4 rfl rfl (EqC.bool Tryz.underlying4) (EqFs.cons (by decide) pl4 rfl rfl (EqC.bool Tryz.underlying4) EqFs.nil))))))) rfl ?_
 refine Pa (.bool (andL [decide (a0.Broker = 0), decide (a0.Epoch = 0), decide (a0.High = 0), a0.Fence == false, a0.Leave == false])) rfl rfl ?_
 refine Nt ?_
 refine WC.ret ?_
 refine WQ.thenR ?_
 refine WQ.drop ?_
 exact WQ.returnsF h [] rfl (results1 rfl rfl) (IM.le.refl _) ⟨rfl, rfl⟩
 have h := ite_f hb22 h
 refine WC.skip ?_
 refine WQ.thenC ?_
 obtain ⟨x23, hj24, h⟩ := bnd h
 refine WC.joinF (fun (x23 : Bool) ρ' M' H' => M.le M' ∧ [(g21, .cells (l26 a0).toArray 26 (0, 0))] :: F = H' ∧ ρ' 4 = (.bool x23)) x23 ?_ ?_
 have h324 := h
 have h := hj24
 refine WC.region ?_
 refine Pu (pt g21 0) (PO.fieldAddr fo26_0 rfl rfl) rfl ?_
 refine Pu (.int .i64 a0.Broker) (PO.loadB 0 pl3 rfl rfl rfl) rfl ?_
 refine Pu (.bool (decide ((1 : Int) ≤ a0.Broker))) (PO.geq rfl rfl) rfl ?_
 refine Pm (.bool (decide ((1 : Int) ≤ a0.Broker))) rfl rfl ?_
 rcases Bool.eq_false_or_eq_true (decide ((1 : Int) ≤ a0.Broker)) with hb25 | hb25
 have h := ite_t hb25 h
 refine On 13 rfl rfl hb25 ?_
 refine Pu (pt g21 0) (PO.fieldAddr fo26_0 rfl rfl) rfl ?_
 refine On 13 rfl rfl hb25 ?_
 refine Pu (.int .i64 a0.Broker) (PO.loadB 0 pl3 rfl rfl rfl) rfl ?_
 refine On 13 rfl rfl hb25 ?_
 refine Pu (.bool (decide (a0.Broker ≤ 64))) (PO.leq rfl rfl) rfl ?_
 refine Pu (.bool (decide (a0.Broker ≤ 64))) (PO.pickT rfl hb25 rfl) rfl ?_
 refine Pm (.bool (decide (a0.Broker ≤ 64))) rfl rfl ?_
 rcases Bool.eq_false_or_eq_true (decide (a0.Broker ≤ 64)) with hb26 | hb26
 have h := ite_t hb26 h
 refine On 18 rfl rfl hb26 ?_
 refine Pu (pt g21 1) (PO.fieldAddr fo26_1 rfl rfl) rfl ?_
 refine On 18 rfl rfl hb26 ?_
 refine Pu (.int .i64 a0.Epoch) (PO.loadB 0 pl3 rfl rfl rfl) rfl ?_
 refine On 18 rfl rfl hb26 ?_
 refine Pu (.bool (decide ((0 : Int) ≤ a0.Epoch))) (PO.geq rfl rfl) rfl ?_
 refine Pu (.bool (decide ((0 : Int) ≤ a0.Epoch))) (PO.pickT rfl hb26 rfl) rfl ?_
 refine Pm (.bool (decide ((0 : Int) ≤ a0.Epoch))) rfl rfl ?_
 rcases Bool.eq_false_or_eq_true (decide ((0 : Int) ≤ a0.Epoch)) with hb27 | hb27
 have h := ite_t hb27 h
 refine On 23 rfl rfl hb27 ?_
 refine Pu (pt g21 1) (PO.fieldAddr fo26_1 rfl rfl) rfl ?_
 refine On 23 rfl rfl hb27 ?_
 refine Pu (.int .i64 a0.Epoch) (PO.loadB 0 pl3 rfl rfl rfl) rfl ?_
 refine On 23 rfl rfl hb27 ?_
 refine Pu (.bool (decide (a0.Epoch ≤ 1073741824))) (PO.leq rfl rfl) rfl ?_
 refine Pu (.bool (decide (a0.Epoch ≤ 1073741824))) (PO.pickT rfl hb27 rfl) rfl ?_
 refine Pm (.bool (decide (a0.Epoch ≤ 1073741824))) rfl rfl ?_
 rcases Bool.eq_false_or_eq_true (decide (a0.Epoch ≤ 1073741824)) with hb28 | hb28
 have h := ite_t hb28 h
 refine On 28 rfl rfl hb28 ?_
 refine Pu (pt g21 2) (PO.fieldAddr fo26_2 rfl rfl) rfl ?_
 refine On 28 rfl rfl hb28 ?_
 refine Pu (.int .i64 a0.High) (PO.loadB 0 pl3 rfl rfl rfl) rfl ?_
 refine On 28 rfl rfl hb28 ?_
 refine Pu (.bool (decide ((0 : Int) ≤ a0.High))) (PO.geq rfl rfl) rfl ?_
 refine Pu (.bool (decide ((0 : Int) ≤ a0.High))) (PO.pickT rfl hb28 rfl) rfl ?_
 refine Pm (.bool (decide ((0 : Int) ≤ a0.High))) rfl rfl ?_
 rcases Bool.eq_false_or_eq_true (decide ((0 : Int) ≤ a0.High)) with hb29 | hb29
 have h := ite_t hb29 h
 refine On 33 rfl rfl hb29 ?_
 refine Pu (pt g21 2) (PO.fieldAddr fo26_2 rfl rfl) rfl ?_
 refine On 33 rfl rfl hb29 ?_
 refine Pu (.int .i64 a0.High) (PO.loadB 0 pl3 rfl rfl rfl) rfl ?_
 refine On 33 rfl rfl hb29 ?_
 refine Pu (.bool (decide (a0.High ≤ 1073741824))) (PO.leq rfl rfl) rfl ?_
 refine Pu (.bool (decide (a0.High ≤ 1073741824))) (PO.pickT rfl hb29 rfl) rfl ?_
 refine Pa (.bool (decide (a0.High ≤ 1073741824))) rfl rfl ?_
 refine WL.nil ?_
 obtain rfl := Option.some.inj h
 refine WQ.thenJ ?_
 exact ⟨(IM.le.refl _), rfl, rfl⟩
 have h := ite_f hb29 h
 iterate 3 refine Of 33 rfl rfl hb29 rfl ?_
 refine Pu (.bool false) (PO.pickF rfl hb29 rfl) rfl ?_
 refine Pa (.bool false) rfl rfl ?_
 refine WL.nil ?_
 obtain rfl := Option.some.inj h
 refine WQ.thenJ ?_
 exact ⟨(IM.le.refl _), rfl, rfl⟩
 have h := ite_f hb28 h
 iterate 3 refine Of 28 rfl rfl hb28 rfl ?_
 refine Pu (.bool false) (PO.pickF rfl hb28 rfl) rfl ?_
 refine Pm (.bool false) rfl rfl ?_
 iterate 3 refine Of 33 rfl rfl rfl rfl ?_
 refine Pu (.bool false) (PO.pickF rfl rfl rfl) rfl ?_
 refine Pa (.bool false) rfl rfl ?_
 refine WL.nil ?_
 obtain rfl := Option.some.inj h
 refine WQ.thenJ ?_
 exact ⟨(IM.le.refl _), rfl, rfl⟩
 have h := ite_f hb27 h
 iterate 3 refine Of 23 rfl rfl hb27 rfl ?_
 refine Pu (.bool false) (PO.pickF rfl hb27 rfl) rfl ?_
 refine Pm (.bool false) rfl rfl ?_
 iterate 3 refine Of 28 rfl rfl rfl rfl ?_
 refine Pu (.bool false) (PO.pickF rfl rfl rfl) rfl ?_
 refine Pm (.bool false) rfl rfl ?_
 iterate 3 refine Of 33 rfl rfl rfl rfl ?_
 refine Pu (.bool false) (PO.pickF rfl rfl rfl) rfl ?_
 refine Pa (.bool false) rfl rfl ?_
 refine WL.nil ?_
 obtain rfl := Option.some.inj h
 refine WQ.thenJ ?_
 exact ⟨(IM.le.refl _), rfl, rfl⟩
 have h := ite_f hb26 h
 iterate 3 refine Of 18 rfl rfl hb26 rfl ?_
 refine Pu (.bool false) (PO.pickF rfl hb26 rfl) rfl ?_
 refine Pm (.bool false) rfl rfl ?_
 iterate 3 refine Of 23 rfl rfl rfl rfl ?_
 refine Pu (.bool false) (PO.pickF rfl rfl rfl) rfl ?_
 refine Pm (.bool false) rfl rfl ?_
 iterate 3 refine Of 28 rfl rfl rfl rfl ?_
 refine Pu (.bool false) (PO.pickF rfl rfl rfl) rfl ?_
 refine Pm (.bool false) rfl rfl ?_
 iterate 3 refine Of 33 rfl rfl rfl rfl ?_
 refine Pu (.bool false) (PO.pickF rfl rfl rfl) rfl ?_
 refine Pa (.bool false) rfl rfl ?_
 refine WL.nil ?_
 obtain rfl := Option.some.inj h
 refine WQ.thenJ ?_
 exact ⟨(IM.le.refl _), rfl, rfl⟩
 have h := ite_f hb25 h
 iterate 3 refine Of 13 rfl rfl hb25 rfl ?_
 refine Pu (.bool false) (PO.pickF rfl hb25 rfl) rfl ?_
 refine Pm (.bool false) rfl rfl ?_
 iterate 3 refine Of 18 rfl rfl rfl rfl ?_
 refine Pu (.bool false) (PO.pickF rfl rfl rfl) rfl ?_
 refine Pm (.bool false) rfl rfl ?_
 iterate 3 refine Of 23 rfl rfl rfl rfl ?_
 refine Pu (.bool false) (PO.pickF rfl rfl rfl) rfl ?_
 refine Pm (.bool false) rfl rfl ?_
 iterate 3 refine Of 28 rfl rfl rfl rfl ?_
 refine Pu (.bool false) (PO.pickF rfl rfl rfl) rfl ?_
 refine Pm (.bool false) rfl rfl ?_
 iterate 3 refine Of 33 rfl rfl rfl rfl ?_
 refine Pu (.bool false) (PO.pickF rfl rfl rfl) rfl ?_
 refine Pa (.bool false) rfl rfl ?_
 refine WL.nil ?_
 obtain rfl := Option.some.inj h
 refine WQ.thenJ ?_
 exact ⟨(IM.le.refl _), rfl, rfl⟩
 rintro ρ24 M24 H24 ⟨hle24, rfl, hs24_4⟩
 refine WC.ret ?_
 refine WQ.drop ?_
 exact WQ.returnsF h [] rfl (results1 rfl hs24_4) hle24 ⟨rfl, rfl⟩

noncomputable def f_slices_Index_int_int_l0 (a0 : (List Int)) (a1 : Int) (s_ : Int) : Option (Int ⊕ (Unit ⊕ Int)) :=
  match s_ with
  | x23 =>
    (if (decide (x23 < (a0.length : Int))) = true then (grd (0 ≤ x23 ∧ x23 < a0.length) (if (decide (a1 = (rd a0 x23))) = true then (some (Sum.inr (Sum.inr x23))) else (some (Sum.inl (IntKind.i64.wrap (x23 + (1 : Int))))))) else (some (Sum.inr (Sum.inl ()))))
noncomputable def f_slices_Index_int_int (a0 : (List Int)) (a1 : Int) : Option Int :=
  ((((iter (f_slices_Index_int_int_l0 a0 a1) (0 : Int)).bind (Sum.elim (fun _ => (some (Sum.inl ()))) (fun (x24 : Int) => (((some x24)).bind fun r => some (Sum.inr r))))) : Option (Unit ⊕ Int)).bind (Sum.elim (fun _ => (some (-1 : Int))) some))
def f_slices_Index_int_int_post (a0 : (List Int)) (a1 : Int) (v0 : Value) : Int → Value → IM → HL → Prop :=
  fun (r0 : Int) (v : Value) (M' : IM) (H' : HL) => (.int .i64 r0) = v ∧ H' = []
theorem f_slices_Index_int_int_ok (a0 : (List Int)) (a1 : Int) (M : IM) (v0 : Value) (h0 : RS (Kd.int .i64) M v0 a0) (res : Int) (h : f_slices_Index_int_int a0 a1 = some res) :
    Tri Tryz.prog 84 #[v0, (.int .i64 a1)] M [] (f_slices_Index_int_int_post a0 a1 v0 res) := by
 unfold f_slices_Index_int_int at h
 refine Tri.enter (fn := Tryz.f84) Tryz.func84 rfl (Nat.le_of_ble_eq_true rfl) ?_
 intro F ρ hρ
 refine Sr ?_
 refine Pa (.int .i64 0) rfl rfl ?_
 refine Nt ?_
 obtain ⟨j21, hj21, h⟩ := bnd h
 refine WC.joinE (fun (_ : Unit) ρ' M' H' => M.le M' ∧ F = H') j21 ?_ ?_
 have h321 := h
 have h := hj21
 refine Sr ?_
 refine Pm v0 (hρ 0) rfl ?_
 refine Pu (.int .i64 (a0.length : Int)) (PO.lenS Tryz.underlying24 rfl h0.len) rfl ?_
 refine Pm (.int .i64 0) rfl rfl ?_
 refine Nt ?_
 refine WC.block ?_
 obtain ⟨e22, he22, hK22⟩ := bnd h
 clear h
 refine WC.loop he22 (fun (x23 : Int) ρ' M' H' => M.le M' ∧ F = H' ∧ ρ' 0 = v0 ∧ ρ' 1 = (.int .i64 a1) ∧ ρ' 7 = (.int .i64 (a0.length : Int)) ∧ ρ' 8 = (.int .i64 x23)) ?_ ?_
 exact ⟨(IM.le.refl _), rfl, (hρ 0), (hρ 1), rfl, rfl⟩
 rintro x23 o22 ρ22 M22 H22 h ⟨hle22, rfl, hs22_0, hs22_1, hs22_7, hs22_8⟩
 unfold f_slices_Index_int_int_l0 at h
 have h0 := h0.mono hle22
 refine Sr ?_
 refine Pu (.bool (decide (x23 < (a0.length : Int)))) (PO.lss hs22_8 hs22_7) rfl ?_
 refine Nt ?_
 refine WC.seq ?_
 refine WC.cond (b := decide (x23 < (a0.length : Int))) rfl (fun hb25 => ?_) (fun hb25 => ?_)
 have h := ite_t hb25 h
 refine WC.skip ?_
 refine WQ.thenC ?_
 refine WC.seq ?_
 refine WC.block ?_
 refine Sr ?_
 refine Pm (.int .i64 x23) hs22_8 rfl ?_
 refine Pa (.int .i64 x23) rfl rfl ?_
 refine Ns ?_
 refine Pm (.int .i64 a1) hs22_1 rfl ?_
 refine Pm v0 hs22_0 rfl ?_
 refine Pm (.int .i64 x23) rfl rfl ?_
 obtain ⟨hg26, h⟩ := grd_i h
 obtain ⟨p27, cs28, hat29, hrc30, hhas31⟩ := h0.at hg26.1 hg26.2 (by decide)
 obtain rfl := hrc30
 refine Pu (.pointer (some p27)) (PO.indexAddr (n := a0.length) Tryz.underlying24 sz3 rfl rfl hg26.1 hg26.2 hat29) rfl ?_
 refine Pu (.int .i64 (rd a0 x23)) (PO.loadM pl3 rfl (IM.has0 hhas31)) rfl ?_
 refine Pu (.bool (decide (a1 = (rd a0 x23)))) (PO.eql rfl rfl) rfl ?_
 refine Nt ?_
 refine WC.cond (b := decide (a1 = (rd a0 x23))) rfl (fun hb33 => ?_) (fun hb33 => ?_)
 have h := ite_t hb33 h
 refine Sr ?_
 refine Pm (.int .i64 x23) rfl rfl ?_
 refine Pa (.int .i64 x23) rfl rfl ?_
 refine Nt ?_
 refine WC.ret ?_
 refine WQ.blockR ?_
 refine WQ.thenR ?_
 refine WQ.leaveR (Sum.inr x23) (Option.some.inj h).symm (fun heq22 => ?_)
 subst heq22
 have h := (elimR hK22)
 refine WQ.blockR ?_
 refine WQ.thenR ?_
 have h := KK.early h h321
 exact WQ.returnsF h [] rfl (results1 rfl rfl) hle22 ⟨rfl, rfl⟩
 have h := ite_f hb33 h
 refine WC.skip ?_
 refine WQ.blockN ?_
 refine WQ.thenC ?_
 refine WC.region ?_
 refine Pu (.int .i64 (IntKind.i64.wrap (x23 + 1))) (PO.add hs22_8 rfl) rfl ?_
 refine Pm (.int .i64 (IntKind.i64.wrap (x23 + 1))) rfl rfl ?_
 refine WL.nil ?_
 refine WQ.again (IntKind.i64.wrap (x23 + 1)) (Option.some.inj h).symm ?_
 exact ⟨hle22, rfl, hs22_0, hs22_1, hs22_7, rfl⟩
 have h := ite_f hb25 h
 refine WC.exit ?_
 refine WQ.thenE ?_
 refine WQ.leaveE (Sum.inl ()) (Option.some.inj h).symm (fun heq22 => ?_)
 subst heq22
 have h := elimL hK22
 refine WQ.blockH ?_
 refine WQ.thenFE h ?_
 exact ⟨hle22, rfl⟩
 rintro _ ρ21 M21 H21 rfl ⟨hle21, rfl⟩
 refine Sr ?_
 refine Pa (.int .i64 (-1 : Int)) rfl rfl ?_
 refine Nt ?_
 refine WC.ret ?_
 exact WQ.returnsF h [] rfl (results1 rfl rfl) hle21 ⟨rfl, rfl⟩

noncomputable def f_slices_Contains_int_int (a0 : (List Int)) (a1 : Int) : Option Bool :=
  ((f_slices_Index_int_int a0 a1).bind fun (r21 : Int) => (some (decide ((0 : Int) ≤ r21))))
def f_slices_Contains_int_int_post (a0 : (List Int)) (a1 : Int) (v0 : Value) : Bool → Value → IM → HL → Prop :=
  fun (r0 : Bool) (v : Value) (M' : IM) (H' : HL) => (.bool r0) = v ∧ H' = []
theorem f_slices_Contains_int_int_ok (a0 : (List Int)) (a1 : Int) (M : IM) (v0 : Value) (h0 : RS (Kd.int .i64) M v0 a0) (res : Bool) (h : f_slices_Contains_int_int a0 a1 = some res) :
    Tri Tryz.prog 73 #[v0, (.int .i64 a1)] M [] (f_slices_Contains_int_int_post a0 a1 v0 res) := by
 unfold f_slices_Contains_int_int at h
 refine Tri.enter (fn := Tryz.f73) Tryz.func73 rfl (Nat.le_of_ble_eq_true rfl) ?_
 intro F ρ hρ
 refine Sr ?_
 refine Pa (.bool false) rfl rfl ?_
 refine Ns ?_
 refine Pm v0 (hρ 0) rfl ?_
 refine Pm (.int .i64 a1) (hρ 1) rfl ?_
 obtain ⟨r21, hr22, h⟩ := bnd h
 refine WL.eff (EO.call0 co84 (f_slices_Index_int_int_ok a0 a1 _ _ h0 r21 hr22) (args2 rfl rfl)) rfl ?_
 rintro _ M23 _ hle24 ⟨_, ⟨rfl, rfl⟩, rfl⟩
 have h0 := h0.mono hle24
 refine WL.a0 ?_
 refine Pu (.bool (decide ((0 : Int) ≤ r21))) (PO.geq rfl rfl) rfl ?_
 refine Pa (.bool (decide ((0 : Int) ≤ r21))) rfl rfl ?_
 refine Nt ?_
 refine WC.ret ?_
 exact WQ.returnsF h [] rfl (results1 rfl rfl) hle24 ⟨rfl, rfl⟩

noncomputable def f_record_Brokers_l0 (a0 : (List Int)) (s_ : Int) : Option (Int ⊕ (Unit ⊕ Unit)) :=
  match s_ with
  | x24 =>
    (if (decide (x24 < (a0.length : Int))) = true then (grd (0 ≤ x24 ∧ x24 < a0.length) (((if (decide ((rd a0 x24) < (1 : Int))) = true then (some true) else (if (decide ((64 : Int) < (rd a0 x24))) = true then (some true) else (grd (0 ≤ (0 : Int) ∧ (0 : Int) ≤ x24 ∧ x24 ≤ (a0.length : Int)) ((f_slices_Contains_int_int (sub a0 (0 : Int) x24) (rd a0 x24)).bind fun (r39 : Bool) => (some r39))))) : Option Bool).bind fun (x33 : Bool) => (if x33 = true then (some (Sum.inr (Sum.inr ()))) else (some (Sum.inl (IntKind.i64.wrap (x24 + (1 : Int)))))))) else (some (Sum.inr (Sum.inl ()))))
noncomputable def f_record_Brokers (a0 : (List Int)) : Option Bool :=
  (if (decide ((7 : Int) < (a0.length : Int))) = true then (some false) else ((((iter (f_record_Brokers_l0 a0) (0 : Int)).bind (Sum.elim (fun _ => (some (Sum.inl ()))) (fun _ => (((some false)).bind fun r => some (Sum.inr r))))) : Option (Unit ⊕ Bool)).bind (Sum.elim (fun _ => (some true)) some)))
def f_record_Brokers_post (a0 : (List Int)) (v0 : Value) : Bool → Value → IM → HL → Prop :=
  fun (r0 : Bool) (v : Value) (M' : IM) (H' : HL) => (.bool r0) = v ∧ H' = []
theorem f_record_Brokers_ok (a0 : (List Int)) (M : IM) (v0 : Value) (h0 : RS (Kd.int .i64) M v0 a0) (res : Bool) (h : f_record_Brokers a0 = some res) :
    Tri Tryz.prog 57 #[v0] M [] (f_record_Brokers_post a0 v0 res) := by
 unfold f_record_Brokers at h
 refine Tri.enter (fn := Tryz.f57) Tryz.func57 rfl (Nat.le_of_ble_eq_true rfl) ?_
 intro F ρ hρ
 refine Sr ?_
 refine Pa (.bool false) rfl rfl ?_
 refine Nt ?_
 refine WC.seq ?_
 refine Sr ?_
 refine Pm v0 (hρ 0) rfl ?_
 refine Pu (.int .i64 (a0.length : Int)) (PO.lenS Tryz.underlying24 rfl h0.len) rfl ?_
 refine Pu (.bool (decide ((7 : Int) < (a0.length : Int)))) (PO.gtr rfl rfl) rfl ?_
 refine Nt ?_
 refine WC.cond (b := decide ((7 : Int) < (a0.length : Int))) rfl (fun hb21 => ?_) (fun hb21 => ?_)
 have h := ite_t hb21 h
 refine Sr ?_
 refine Pa (.bool false) rfl rfl ?_
 refine Nt ?_
 refine WC.ret ?_
 refine WQ.thenR ?_
 exact WQ.returnsF h [] rfl (results1 rfl rfl) (IM.le.refl _) ⟨rfl, rfl⟩
 have h := ite_f hb21 h
 refine WC.skip ?_
 refine WQ.thenC ?_
 obtain ⟨j22, hj22, h⟩ := bnd h
 refine WC.joinE (fun (_ : Unit) ρ' M' H' => M.le M' ∧ F = H') j22 ?_ ?_
 have h322 := h
 have h := hj22
 refine Sr ?_
 refine Pm v0 (hρ 0) rfl ?_
 refine Pu (.int .i64 (a0.length : Int)) (PO.lenS Tryz.underlying24 rfl h0.len) rfl ?_
 refine Pm (.int .i64 0) rfl rfl ?_
 refine Nt ?_
 refine WC.block ?_
 obtain ⟨e23, he23, hK23⟩ := bnd h
 clear h
 refine WC.loop he23 (fun (x24 : Int) ρ' M' H' => M.le M' ∧ F = H' ∧ ρ' 0 = v0 ∧ ρ' 8 = v0 ∧ ρ' 9 = (.int .i64 (a0.length : Int)) ∧ ρ' 10 = (.int .i64 x24)) ?_ ?_
 exact ⟨(IM.le.refl _), rfl, (hρ 0), rfl, rfl, rfl⟩
 rintro x24 o23 ρ23 M23 H23 h ⟨hle23, rfl, hs23_0, hs23_8, hs23_9, hs23_10⟩
 unfold f_record_Brokers_l0 at h
 have h0 := h0.mono hle23
 refine Sr ?_
 refine Pu (.bool (decide (x24 < (a0.length : Int)))) (PO.lss hs23_10 hs23_9) rfl ?_
 refine Nt ?_
 refine WC.seq ?_
 refine WC.cond (b := decide (x24 < (a0.length : Int))) rfl (fun hb25 => ?_) (fun hb25 => ?_)
 have h := ite_t hb25 h
 refine WC.skip ?_
 refine WQ.thenC ?_
 refine WC.seq ?_
 refine WC.block ?_
 refine Sr ?_
 refine Pm (.int .i64 x24) hs23_10 rfl ?_
 obtain ⟨hg26, h⟩ := grd_i h
 obtain ⟨p27, cs28, hat29, hrc30, hhas31⟩ := h0.at hg26.1 hg26.2 (by decide)
 obtain rfl := hrc30
 refine Pu (.pointer (some p27)) (PO.indexAddr (n := a0.length) Tryz.underlying24 sz3 hs23_8 hs23_10 hg26.1 hg26.2 hat29) rfl ?_
 refine Pu (.int .i64 (rd a0 x24)) (PO.loadM pl3 rfl (IM.has0 hhas31)) rfl ?_
 refine Pa (.int .i64 x24) rfl rfl ?_
 refine Pa (.int .i64 (rd a0 x24)) rfl rfl ?_
 refine Nt ?_
 obtain ⟨x33, hj34, h⟩ := bnd h
 refine WC.joinF (fun (x33 : Bool) ρ' M' H' => M23.le M' ∧ F = H' ∧ ρ' 0 = v0 ∧ ρ' 8 = v0 ∧ ρ' 9 = (.int .i64 (a0.length : Int)) ∧ ρ' 10 = (.int .i64 x24) ∧ ρ' 27 = (.bool x33)) x33 ?_ ?_
 have h334 := h
 have h := hj34
 refine WC.region ?_
 refine Pm (.int .i64 (rd a0 x24)) rfl rfl ?_
 refine Pu (.bool (decide ((rd a0 x24) < 1))) (PO.lss rfl rfl) rfl ?_
 refine Pm (.bool (decide ((rd a0 x24) < 1))) rfl rfl ?_
 rcases Bool.eq_false_or_eq_true (decide ((rd a0 x24) < 1)) with hb35 | hb35
 have h := ite_t hb35 h
 iterate 2 refine Of 17 rfl rfl hb35 rfl ?_
 refine Pu (.bool true) (PO.pickT rfl hb35 rfl) rfl ?_
 refine Pm (.bool true) rfl rfl ?_
 iterate 5 refine Of 21 rfl rfl rfl rfl ?_
 refine Pu (.bool true) (PO.pickT rfl rfl rfl) rfl ?_
 refine WL.nil ?_
 obtain rfl := Option.some.inj h
 refine WQ.thenJ ?_
 exact ⟨(IM.le.refl _), rfl, hs23_0, hs23_8, hs23_9, hs23_10, rfl⟩
 have h := ite_f hb35 h
 refine On 17 rfl rfl hb35 ?_
 refine Pm (.int .i64 (rd a0 x24)) rfl rfl ?_
 refine On 17 rfl rfl hb35 ?_
 refine Pu (.bool (decide ((64 : Int) < (rd a0 x24)))) (PO.gtr rfl rfl) rfl ?_
 refine Pu (.bool (decide ((64 : Int) < (rd a0 x24)))) (PO.pickF rfl hb35 rfl) rfl ?_
 refine Pm (.bool (decide ((64 : Int) < (rd a0 x24)))) rfl rfl ?_
 rcases Bool.eq_false_or_eq_true (decide ((64 : Int) < (rd a0 x24))) with hb36 | hb36
 have h := ite_t hb36 h
 iterate 5 refine Of 21 rfl rfl hb36 rfl ?_
 refine Pu (.bool true) (PO.pickT rfl hb36 rfl) rfl ?_
 refine WL.nil ?_
 obtain rfl := Option.some.inj h
 refine WQ.thenJ ?_
 exact ⟨(IM.le.refl _), rfl, hs23_0, hs23_8, hs23_9, hs23_10, rfl⟩
 have h := ite_f hb36 h
 refine On 21 rfl rfl hb36 ?_
 refine Pm v0 hs23_0 rfl ?_
 refine On 21 rfl rfl hb36 ?_
 refine Pm (.int .i64 x24) rfl rfl ?_
 refine On 21 rfl rfl hb36 ?_
 obtain ⟨hg37, h⟩ := grd_i h
 have h38 := h0.sub hg37.1 hg37.2.1 hg37.2.2
 refine Pu (slV v0 1 ((0 : Int)).toNat (x24).toNat) (PO.slice (n := a0.length) (l := ((0 : Int)).toNat) (h := (x24).toNat) Tryz.underlying24 sz3 rfl h0.len h0.cap (bound0 rfl) ⟨_, _, rfl, (Int.le_trans hg37.1 hg37.2.1), rfl⟩ (Int.toNat_le_toNat hg37.2.1) (toNat_le_len hg37.2.2)) rfl ?_
 refine On 21 rfl rfl hb36 ?_
 refine Pm (.int .i64 (rd a0 x24)) rfl rfl ?_
 refine On 21 rfl rfl hb36 ?_
 obtain ⟨r39, hr40, h⟩ := bnd h
 refine WL.eff (EO.call0 co73 (f_slices_Contains_int_int_ok (sub a0 (0 : Int) x24) (rd a0 x24) _ _ h38 r39 hr40) (args2 rfl rfl)) rfl ?_
 rintro _ M41 _ hle42 ⟨_, ⟨rfl, rfl⟩, rfl⟩
 have h0 := h0.mono hle42
 have h38 := h38.mono hle42
 refine WL.a0 ?_
 refine Pu (.bool r39) (PO.pickF rfl hb36 rfl) rfl ?_
 refine WL.nil ?_
 obtain rfl := Option.some.inj h
 refine WQ.thenJ ?_
 exact ⟨hle42, rfl, hs23_0, hs23_8, hs23_9, hs23_10, rfl⟩
 rintro ρ34 M34 H34 ⟨hle34, rfl, hs34_0, hs34_8, hs34_9, hs34_10, hs34_27⟩
 have h0 := h0.mono hle34
 refine WC.cond (b := x33) hs34_27 (fun hb44 => ?_) (fun hb44 => ?_)
 have h := ite_t hb44 h
 refine Sr ?_
 refine Pa (.bool false) rfl rfl ?_
 refine Nt ?_
 refine WC.ret ?_
 refine WQ.blockR ?_
 refine WQ.thenR ?_
 refine WQ.leaveR (Sum.inr ()) (Option.some.inj h).symm (fun heq23 => ?_)
 subst heq23
 have h := (elimR hK23)
 refine WQ.blockR ?_
 refine WQ.thenR ?_
 have h := KK.early h h322
 exact WQ.returnsF h [] rfl (results1 rfl rfl) (hle23.trans hle34) ⟨rfl, rfl⟩
 have h := ite_f hb44 h
 refine WC.skip ?_
 refine WQ.blockN ?_
 refine WQ.thenC ?_
 refine WC.region ?_
 refine Pu (.int .i64 (IntKind.i64.wrap (x24 + 1))) (PO.add hs34_10 rfl) rfl ?_
 refine Pm (.int .i64 (IntKind.i64.wrap (x24 + 1))) rfl rfl ?_
 refine WL.nil ?_
 refine WQ.again (IntKind.i64.wrap (x24 + 1)) (Option.some.inj h).symm ?_
 exact ⟨(hle23.trans hle34), rfl, hs34_0, hs34_8, hs34_9, rfl⟩
 have h := ite_f hb25 h
 refine WC.exit ?_
 refine WQ.thenE ?_
 refine WQ.leaveE (Sum.inl ()) (Option.some.inj h).symm (fun heq23 => ?_)
 subst heq23
 have h := elimL hK23
 refine WQ.blockH ?_
 refine WQ.thenFE h ?_
 exact ⟨hle23, rfl⟩
 rintro _ ρ22 M22 H22 rfl ⟨hle22, rfl⟩
 refine Sr ?_
 refine Pa (.bool true) rfl rfl ?_
 refine Nt ?_
 refine WC.ret ?_
 exact WQ.returnsF h [] rfl (results1 rfl rfl) hle22 ⟨rfl, rfl⟩


end Go.Proofs.YtjgnbbakamellaaGreatDoor.G
