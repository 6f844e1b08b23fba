/- Go functions: what they come to, and that they do. Printed by a program of the session (gen). -/
import Derived.Test.YtmifmgpfjamdkaaDoorEF
import Derived.Test.YtmifmgpfjamdkaaDoorKAny
set_option linter.unusedVariables false
set_option linter.unusedSimpArgs false
namespace Go.Proofs.YtmifmgpfjamdkaaDoor.G
open Go Go.KK

noncomputable def f_law01_light (a0 : T_ref01_Chain) : Option Bool :=
  (some (decide ((a0.Steps.length : Int) ≤ (60 : Int))))
def f_law01_light_post (a0 : T_ref01_Chain) (v0_0 : Value) : Bool → Value → IM → HL → Prop :=
  fun (r0 : Bool) (v : Value) (M' : IM) (H' : HL) => (.bool r0) = v ∧ H' = []
set_option maxHeartbeats 8000000 in
set_option maxRecDepth 100000 in
theorem f_law01_light_ok (a0 : T_ref01_Chain) (M : IM) (v0_0 : Value) (h0_0 : RS kd_ref01_Step M v0_0 a0.Steps) (res : Bool) (h : f_law01_light a0 = some res) :
    Tri Tryd.prog 6 #[(.agg #[v0_0, (.int .i64 a0.Code)])] M [] (f_law01_light_post a0 v0_0 res) := by
 unfold f_law01_light at h
 refine Tri.enter (fn := Tryd.f6) Tryd.func6 rfl (Nat.le_of_ble_eq_true rfl) ?_
 intro F ρ hρ
 refine Sr ?_
 refine WL.eff (EO.box (cs := #[v0_0, (.int .i64 a0.Code)]) (congrArg Value.cells (asE (.agg #[v0_0, (.int .i64 a0.Code)]) (hρ 0)))) rfl ?_
 rintro _ _ _ - ⟨rfl, g21, rfl, rfl⟩
 refine Pa (.bool false) rfl rfl ?_
 refine Ns ?_
 refine Pu (.pointer (some ⟨g21, 0, none⟩)) (PO.fieldAddr fo24_0 rfl rfl) rfl ?_
 refine Pu v0_0 (PO.loadB 0 pl22 rfl rfl rfl) rfl ?_
 refine Pu (.int .i64 (a0.Steps.length : Int)) (PO.lenS Tryd.underlying22 rfl h0_0.len) rfl ?_
 refine Pu (.bool (decide ((a0.Steps.length : Int) ≤ (60 : Int)))) (PO.leq rfl rfl) rfl ?_
 refine Pa (.bool (decide ((a0.Steps.length : Int) ≤ (60 : Int)))) rfl rfl ?_
 refine Nt ?_
 refine WC.ret ?_
 refine WQ.drop ?_
 exact WQ.returnsF h [] rfl (results1 rfl rfl) (IM.le.refl _) ⟨rfl, rfl⟩

noncomputable def f_fault_New (a0 : ByteArray) (a1 : Int) (a2 : Int) : Option GErr :=
  (some (GErr.fault a0 a1 (GErr.code a2)))
def f_fault_New_post (a0 : ByteArray) (a1 : Int) (a2 : Int) : GErr → Value → IM → HL → Prop :=
  fun (r0 : GErr) (v : Value) (M' : IM) (H' : HL) => (GV r0) = v ∧ H' = []
set_option maxHeartbeats 8000000 in
set_option maxRecDepth 100000 in
theorem f_fault_New_ok (a0 : ByteArray) (a1 : Int) (a2 : Int) (M : IM) (res : GErr) (h : f_fault_New a0 a1 a2 = some res) :
    Tri Tryd.prog 29 #[(.string a0), (.int .i64 a1), (.int .i64 a2)] M [] (f_fault_New_post a0 a1 a2 res) := by
 unfold f_fault_New at h
 refine Tri.enter (fn := Tryd.f29) Tryd.func29 rfl (Nat.le_of_ble_eq_true rfl) ?_
 intro F ρ hρ
 refine Sr ?_
 refine Pa (GV GErr.nil) rfl rfl ?_
 refine Ns ?_
 refine Pm (.string a0) (hρ 0) rfl ?_
 refine Pm (.int .i64 a1) (hρ 1) rfl ?_
 refine Pm (.int .i64 a2) (hρ 2) rfl ?_
 refine Pu (GV (GErr.code a2)) (PO.makeInterface cc35 rfl) rfl ?_
 refine Pu (.agg #[(.string a0), (.int .i64 a1), (GV (GErr.code a2))]) (PO.buildL (cl := [(.string a0), (.int .i64 a1), (GV (GErr.code a2))]) ze65 fp65 (Parts.cons (congrArg Value.cells (show ev _ _ = (.string a0) from rfl)) (Parts.cons (congrArg Value.cells (show ev _ _ = (.int .i64 a1) from rfl)) (Parts.cons ((congrArg Value.cells (show ev _ _ = (GV (GErr.code a2)) from rfl)).trans (GErr.val_cells _ _ _ _)) Parts.nil))) rfl) rfl ?_
 refine Pu (GV (GErr.fault a0 a1 (GErr.code a2))) (PO.makeInterface cc65 rfl) rfl ?_
 refine Pa (GV (GErr.fault a0 a1 (GErr.code a2))) rfl rfl ?_
 refine Nt ?_
 refine WC.ret ?_
 exact WQ.returnsF h [] rfl (results1 rfl rfl) (IM.le.refl _) ⟨rfl, rfl⟩

noncomputable def f_fault_Wrap (a0 : ByteArray) (a1 : Int) (a2 : GErr) : Option GErr :=
  (if a2.isNil = true then (some GErr.nil) else (some (GErr.fault a0 a1 a2)))
def f_fault_Wrap_post (a0 : ByteArray) (a1 : Int) (a2 : GErr) : GErr → Value → IM → HL → Prop :=
  fun (r0 : GErr) (v : Value) (M' : IM) (H' : HL) => (GV r0) = v ∧ H' = []
set_option maxHeartbeats 8000000 in
set_option maxRecDepth 100000 in
theorem f_fault_Wrap_ok (a0 : ByteArray) (a1 : Int) (a2 : GErr) (M : IM) (res : GErr) (h : f_fault_Wrap a0 a1 a2 = some res) :
    Tri Tryd.prog 9 #[(.string a0), (.int .i64 a1), (GV a2)] M [] (f_fault_Wrap_post a0 a1 a2 res) := by
 unfold f_fault_Wrap at h
 refine Tri.enter (fn := Tryd.f9) Tryd.func9 rfl (Nat.le_of_ble_eq_true rfl) ?_
 intro F ρ hρ
 refine Sr ?_
 refine Pa (GV GErr.nil) rfl rfl ?_
 refine Nt ?_
 refine WC.seq ?_
 refine Sr ?_
 refine Pm (GV a2) (hρ 2) rfl ?_
 refine Pu (.bool a2.isNil) (PO.errNil Tryd.underlying28 rfl) rfl ?_
 refine Nt ?_
 refine WC.cond (b := a2.isNil) rfl (fun hb21 => ?_) (fun hb21 => ?_)
 have h := ite_t hb21 h
 refine Sr ?_
 refine Pa (GV GErr.nil) rfl rfl ?_
 refine Nt ?_
 refine WC.ret ?_
 refine WQ.thenR ?_
 exact WQ.returnsF h [] rfl (results1 rfl rfl) (IM.le.refl _) ⟨rfl, rfl⟩
 have h := ite_f hb21 h
 refine WC.skip ?_
 refine WQ.thenC ?_
 refine Sr ?_
 refine Pm (.string a0) (hρ 0) rfl ?_
 refine Pm (.int .i64 a1) (hρ 1) rfl ?_
 refine Pm (GV a2) (hρ 2) rfl ?_
 refine Pu (.agg #[(.string a0), (.int .i64 a1), (GV a2)]) (PO.buildL (cl := [(.string a0), (.int .i64 a1), (GV a2)]) ze65 fp65 (Parts.cons (congrArg Value.cells (show ev _ _ = (.string a0) from rfl)) (Parts.cons (congrArg Value.cells (show ev _ _ = (.int .i64 a1) from rfl)) (Parts.cons ((congrArg Value.cells (show ev _ _ = (GV a2) from rfl)).trans (GErr.val_cells _ _ _ _)) Parts.nil))) rfl) rfl ?_
 refine Pu (GV (GErr.fault a0 a1 a2)) (PO.makeInterface cc65 rfl) rfl ?_
 refine Pa (GV (GErr.fault a0 a1 a2)) rfl rfl ?_
 refine Nt ?_
 refine WC.ret ?_
 exact WQ.returnsF h [] rfl (results1 rfl rfl) (IM.le.refl _) ⟨rfl, rfl⟩

noncomputable def f_errors_as_fault_l0 (a1 : T_api_Fault) (s_ : GErr) : Option (GErr ⊕ (Bool × ByteArray × Int × GErr)) :=
  match s_ with
  | x23 =>
    (match x23 with | .nil => none | .code n28 => (some (Sum.inr (false, a1.Op, a1.At, a1.Err))) | .fault o29 a30 e31 => (some (Sum.inr (true, o29, a30, e31))) | .other b32 => (some (Sum.inr (false, a1.Op, a1.At, a1.Err))))
noncomputable def f_errors_as_fault (a0 : GErr) (a1 : T_api_Fault) : Option (Bool × ByteArray × Int × GErr) :=
  ((iter (f_errors_as_fault_l0 a1) a0).bind (fun (x24, x25, x26, x27) => (some (x24, x25, x26, x27))))
def f_errors_as_fault_post (a0 : GErr) (a1 : T_api_Fault) (g1 g2 : Nat) : (Bool × ByteArray × Int × GErr) → Value → IM → HL → Prop :=
  fun (p_ : (Bool × ByteArray × Int × GErr)) (v : Value) (M' : IM) (H' : HL) => match p_ with | (r0, r1, r2, r3) => (.bool r0) = v ∧ H' = [[(g1, .cells #[(.string r1), (.int .i64 r2), (GV r3)] 65 (0, 0))], [(g2, .cells #[(.pointer (some ⟨g1, 0, none⟩))] 67 (0, 0))]]
set_option maxHeartbeats 8000000 in
set_option maxRecDepth 100000 in
theorem f_errors_as_fault_ok (a0 : GErr) (a1 : T_api_Fault) (M : IM) (g1 g2 : Nat) (res : (Bool × ByteArray × Int × GErr)) (h : f_errors_as_fault a0 a1 = some res) :
    Tri Tryd.prog 45 #[(GV a0), (.iface 67 (.pointer (some ⟨g1, 0, none⟩))), (.agg #[(.pointer (some ⟨1, 67, none⟩)), (.pointer (some ⟨g2, 0, none⟩)), (.int .u64 (150 : Int))]), (.iface 104 (.agg #[.pointer (some ⟨1, 65, none⟩)]))] M [[(g1, .cells (l65 a1).toArray 65 (0, 0))], [(g2, .cells #[(.pointer (some ⟨g1, 0, none⟩))] 67 (0, 0))]] (f_errors_as_fault_post a0 a1 g1 g2 res) := by
 unfold f_errors_as_fault at h
 refine Tri.enter (fn := Tryd.f45) Tryd.func45 rfl (Nat.le_of_ble_eq_true rfl) ?_
 intro F ρ hρ
 refine Sr ?_
 refine WL.eff (EO.box (cs := #[(.pointer (some ⟨1, 67, none⟩)), (.pointer (some ⟨g2, 0, none⟩)), (.int .u64 (150 : Int))]) (congrArg Value.cells (asE (.agg #[(.pointer (some ⟨1, 67, none⟩)), (.pointer (some ⟨g2, 0, none⟩)), (.int .u64 (150 : Int))]) (hρ 2)))) rfl ?_
 rintro _ _ _ - ⟨rfl, g21, rfl, rfl⟩
 refine Pa (.bool false) rfl rfl ?_
 refine Nt ?_
 refine WC.block ?_
 obtain ⟨e22, he22, hK22⟩ := bnd h
 clear h
 refine WC.loop he22 (fun (x23 : GErr) ρ' M' H' => M.le M' ∧ [(g21, .cells #[(.pointer (some ⟨1, 67, none⟩)), (.pointer (some ⟨g2, 0, none⟩)), (.int .u64 (150 : Int))] 89 (0, 0))] :: [(g1, .cells (l65 a1).toArray 65 (0, 0))] :: [(g2, .cells #[(.pointer (some ⟨g1, 0, none⟩))] 67 (0, 0))] :: F = H' ∧ ρ' 0 = (GV x23) ∧ ρ' 1 = (.iface 67 (.pointer (some ⟨g1, 0, none⟩))) ∧ ρ' 3 = (.iface 104 (.agg #[.pointer (some ⟨1, 65, none⟩)])) ∧ ρ' 6 = (.pointer (some ⟨g21, 0, none⟩))) ?_ ?_
 exact ⟨(IM.le.refl _), rfl, (hρ 0), (hρ 1), (hρ 3), rfl⟩
 rintro x23 o22 ρ22 M22 H22 h ⟨hle22, rfl, hs22_0, hs22_1, hs22_3, hs22_6⟩
 unfold f_errors_as_fault_l0 at h
 refine WC.block ?_
 refine WC.seq ?_
 refine Sr ?_
 refine Pm (GV x23) hs22_0 rfl ?_
 rcases x23 with _ | n28 | ⟨o29, a30, e31⟩ | b32
 refine WL.eff (EO.extP xt49 (args1 (show ev _ _ = .nilIface from rfl)) tyNil) rfl ?_
 rintro _ _ _ - ⟨rfl, rfl, rfl⟩
 refine Pm (.iface 104 (.agg #[.pointer (some ⟨1, 65, none⟩)])) hs22_3 rfl ?_
 exact nones h
 refine WL.eff (EO.extP xt49 (args1 (show ev _ _ = (.iface 35 (.int .i64 n28)) from rfl)) (ty35 _)) rfl ?_
 rintro _ _ _ - ⟨rfl, rfl, rfl⟩
 refine Pm (.iface 104 (.agg #[.pointer (some ⟨1, 65, none⟩)])) hs22_3 rfl ?_
 refine WL.eff (EO.invE (show ev _ _ = (.iface 104 (.agg #[.pointer (some ⟨1, 35, none⟩)])) from rfl) (mm_AssignableTo (.pointer (some ⟨1, 35, none⟩))) xt78 (inv1 rfl) mr_AssignableTo_35_65) rfl ?_
 rintro _ _ _ - ⟨rfl, rfl, rfl⟩
 refine Nt ?_
 refine WC.condF (b := false) rfl rfl ?_
 refine WC.skip ?_
 refine WQ.thenC ?_
 refine WC.seq ?_
 refine Sr ?_
 refine Pm (GV (GErr.code n28)) hs22_0 rfl ?_
 refine Pu (.tuple #[.nilIface, (.bool false)]) (PO.asserts (show ev _ _ = (.iface 35 (.int .i64 n28)) from rfl) (la35_108 _ _)) rfl ?_
 refine Pm (.tuple #[.nilIface, (.bool false)]) rfl rfl ?_
 refine Pu .nilIface (PO.extract rfl rfl) rfl ?_
 refine Pu (.bool false) (PO.extract rfl rfl) rfl ?_
 refine Pa .nilIface rfl rfl ?_
 refine Pa (.bool false) rfl rfl ?_
 refine Ns ?_
 refine Pm (.bool false) rfl rfl ?_
 refine Pm (.bool false) rfl rfl ?_
 iterate 3 refine Of 31 rfl rfl rfl rfl ?_
 refine Pu (.bool false) (PO.pickF rfl rfl rfl) rfl ?_
 refine Nt ?_
 refine WC.condF (b := false) rfl rfl ?_
 refine WC.skip ?_
 refine WQ.thenC ?_
 refine Sr ?_
 refine Pm (GV (GErr.code n28)) hs22_0 rfl ?_
 refine Nt ?_
 refine WC.block ?_
 refine Sr ?_
 refine Pu (.tuple #[.nilIface, (.bool false)]) (PO.asserts (show ev _ _ = (.iface 35 (.int .i64 n28)) from rfl) (la35_111 _ _)) rfl ?_
 refine Pu (.bool false) (PO.extract rfl rfl) rfl ?_
 refine Pu .nilIface (PO.extract rfl rfl) rfl ?_
 refine Nt ?_
 refine WC.condF (b := false) rfl rfl ?_
 refine Sr ?_
 refine Pu (.tuple #[.nilIface, (.bool false)]) (PO.asserts (show ev _ _ = (.iface 35 (.int .i64 n28)) from rfl) (la35_113 _ _)) rfl ?_
 refine Pu (.bool false) (PO.extract rfl rfl) rfl ?_
 refine Pu .nilIface (PO.extract rfl rfl) rfl ?_
 refine Nt ?_
 refine WC.condF (b := false) rfl rfl ?_
 refine Sr ?_
 refine Pa (GV (GErr.code n28)) rfl rfl ?_
 refine Ns ?_
 refine Pa (.bool false) rfl rfl ?_
 refine Nt ?_
 refine WC.ret ?_
 refine WQ.blockR ?_
 refine WQ.blockR ?_
 refine WQ.leaveR (false, a1.Op, a1.At, a1.Err) (Option.some.inj h).symm (fun heq22 => ?_)
 subst heq22
 have h := hK22
 refine WQ.blockR ?_
 refine WQ.drop ?_
 exact WQ.returnsF h [[(g1, .cells (l65 a1).toArray 65 (0, 0))], [(g2, .cells #[(.pointer (some ⟨g1, 0, none⟩))] 67 (0, 0))]] rfl (results1 rfl rfl) hle22 ⟨rfl, rfl⟩
 refine WL.eff (EO.extP xt49 (args1 (show ev _ _ = (.iface 65 (.agg #[.string o29, .int .i64 a30, GV e31])) from rfl)) (ty65 _)) rfl ?_
 rintro _ _ _ - ⟨rfl, rfl, rfl⟩
 refine Pm (.iface 104 (.agg #[.pointer (some ⟨1, 65, none⟩)])) hs22_3 rfl ?_
 refine WL.eff (EO.invE (show ev _ _ = (.iface 104 (.agg #[.pointer (some ⟨1, 65, none⟩)])) from rfl) (mm_AssignableTo (.pointer (some ⟨1, 65, none⟩))) xt78 (inv1 rfl) mr_AssignableTo_65_65) rfl ?_
 rintro _ _ _ - ⟨rfl, rfl, rfl⟩
 refine Nt ?_
 refine WC.condT (b := true) rfl rfl ?_
 refine Sr ?_
 refine Pu (.agg #[(.pointer (some ⟨1, 67, none⟩)), (.pointer (some ⟨g2, 0, none⟩)), (.int .u64 (150 : Int))]) (PO.loadBA (cs := [(.pointer (some ⟨1, 67, none⟩)), (.pointer (some ⟨g2, 0, none⟩)), (.int .u64 (150 : Int))]) 0 ag89 sz89 hs22_6 rfl rfl) rfl ?_
 refine WL.eff (EO.rvElem (r := fun p => .agg #[(.pointer (some ⟨1, 65, none⟩)), .pointer (some p), .int .u64 409]) 2 xt51 pp67_150 rfl pl67 el67 mk65 (args1 (show ev _ _ = (.agg #[(.pointer (some ⟨1, 67, none⟩)), (.pointer (some ⟨g2, 0, none⟩)), (.int .u64 (150 : Int))]) from rfl)) rfl) rfl ?_
 rintro _ _ _ - ⟨rfl, rfl, rfl⟩
 refine Pm (GV (GErr.fault o29 a30 e31)) hs22_0 rfl ?_
 refine WL.eff (EO.valueOf xt42 (args1 (show ev _ _ = (.iface 65 (.agg #[.string o29, .int .i64 a30, GV e31])) from rfl)) (vo65 o29 a30 (GV e31))) rfl ?_
 rintro _ _ _ - ⟨rfl, g33, rfl, rfl⟩
 refine WL.f2 ?_
 refine WL.eff (EO.rvSet (arr := (l65 a1)) (vl := [(.string o29), (.int .i64 a30), (GV e31)]) (v := (.agg #[(.string o29), (.int .i64 a30), (GV e31)])) xt52 pp65_409 pp65_153 rfl da65 (args2 (show ev _ _ = (.agg #[(.pointer (some ⟨1, 65, none⟩)), (.pointer (some ⟨g1, 0, none⟩)), (.int .u64 (409 : Int))]) from rfl) (show ev _ _ = (.agg #[(.pointer (some ⟨1, 65, none⟩)), (.pointer (some ⟨g33, 0, none⟩)), (.int .u64 (153 : Int))]) from rfl)) (fun _ hs => run_loadAgg (cs := [(.string o29), (.int .i64 a30), (GV e31)]) ag65 sz65 (fun i v hi => by rw [add_lit]; exact hs.cellC 1 rfl (chunkCell_lit.trans (by simpa using hi)))) rfl sz65 rfl (onesOf (Ones.cons rfl (Ones.cons rfl (Ones.cons (GErr.val_one _ _ _ _) Ones.nil))))) rfl ?_
 rintro _ _ _ - ⟨rfl, rfl, rfl⟩
 refine Ns ?_
 refine Pa (.bool true) rfl rfl ?_
 refine Nt ?_
 refine WC.ret ?_
 refine WQ.thenR ?_
 refine WQ.blockR ?_
 refine WQ.leaveR (true, o29, a30, e31) (Option.some.inj h).symm (fun heq22 => ?_)
 subst heq22
 have h := hK22
 refine WQ.blockR ?_
 refine WQ.f1 ?_
 refine WQ.drop ?_
 refine WQ.f1 ?_
 refine WQ.drop ?_
 exact WQ.returnsF h [[(g1, .cells #[(.string o29), (.int .i64 a30), (GV e31)] 65 (0, 0))], [(g2, .cells #[(.pointer (some ⟨g1, 0, none⟩))] 67 (0, 0))]] rfl (results1 rfl rfl) hle22 ⟨rfl, rfl⟩
 refine WL.eff (EO.extP xt49 (args1 (show ev _ _ = (.iface 83 (.pointer (some b32))) from rfl)) (ty83 _)) rfl ?_
 rintro _ _ _ - ⟨rfl, rfl, rfl⟩
 refine Pm (.iface 104 (.agg #[.pointer (some ⟨1, 65, none⟩)])) hs22_3 rfl ?_
 refine WL.eff (EO.invE (show ev _ _ = (.iface 104 (.agg #[.pointer (some ⟨1, 83, none⟩)])) from rfl) (mm_AssignableTo (.pointer (some ⟨1, 83, none⟩))) xt78 (inv1 rfl) mr_AssignableTo_83_65) rfl ?_
 rintro _ _ _ - ⟨rfl, rfl, rfl⟩
 refine Nt ?_
 refine WC.condF (b := false) rfl rfl ?_
 refine WC.skip ?_
 refine WQ.thenC ?_
 refine WC.seq ?_
 refine Sr ?_
 refine Pm (GV (GErr.other b32)) hs22_0 rfl ?_
 refine Pu (.tuple #[.nilIface, (.bool false)]) (PO.asserts (show ev _ _ = (.iface 83 (.pointer (some b32))) from rfl) (la83_108 _ _)) rfl ?_
 refine Pm (.tuple #[.nilIface, (.bool false)]) rfl rfl ?_
 refine Pu .nilIface (PO.extract rfl rfl) rfl ?_
 refine Pu (.bool false) (PO.extract rfl rfl) rfl ?_
 refine Pa .nilIface rfl rfl ?_
 refine Pa (.bool false) rfl rfl ?_
 refine Ns ?_
 refine Pm (.bool false) rfl rfl ?_
 refine Pm (.bool false) rfl rfl ?_
 iterate 3 refine Of 31 rfl rfl rfl rfl ?_
 refine Pu (.bool false) (PO.pickF rfl rfl rfl) rfl ?_
 refine Nt ?_
 refine WC.condF (b := false) rfl rfl ?_
 refine WC.skip ?_
 refine WQ.thenC ?_
 refine Sr ?_
 refine Pm (GV (GErr.other b32)) hs22_0 rfl ?_
 refine Nt ?_
 refine WC.block ?_
 refine Sr ?_
 refine Pu (.tuple #[.nilIface, (.bool false)]) (PO.asserts (show ev _ _ = (.iface 83 (.pointer (some b32))) from rfl) (la83_111 _ _)) rfl ?_
 refine Pu (.bool false) (PO.extract rfl rfl) rfl ?_
 refine Pu .nilIface (PO.extract rfl rfl) rfl ?_
 refine Nt ?_
 refine WC.condF (b := false) rfl rfl ?_
 refine Sr ?_
 refine Pu (.tuple #[.nilIface, (.bool false)]) (PO.asserts (show ev _ _ = (.iface 83 (.pointer (some b32))) from rfl) (la83_113 _ _)) rfl ?_
 refine Pu (.bool false) (PO.extract rfl rfl) rfl ?_
 refine Pu .nilIface (PO.extract rfl rfl) rfl ?_
 refine Nt ?_
 refine WC.condF (b := false) rfl rfl ?_
 refine Sr ?_
 refine Pa (GV (GErr.other b32)) rfl rfl ?_
 refine Ns ?_
 refine Pa (.bool false) rfl rfl ?_
 refine Nt ?_
 refine WC.ret ?_
 refine WQ.blockR ?_
 refine WQ.blockR ?_
 refine WQ.leaveR (false, a1.Op, a1.At, a1.Err) (Option.some.inj h).symm (fun heq22 => ?_)
 subst heq22
 have h := hK22
 refine WQ.blockR ?_
 refine WQ.drop ?_
 exact WQ.returnsF h [[(g1, .cells (l65 a1).toArray 65 (0, 0))], [(g2, .cells #[(.pointer (some ⟨g1, 0, none⟩))] 67 (0, 0))]] rfl (results1 rfl rfl) hle22 ⟨rfl, rfl⟩

noncomputable def f_errors_As_fault (a0 : GErr) (a1 : T_api_Fault) : Option (Bool × ByteArray × Int × GErr) :=
  (if a0.isNil = true then (some (false, a1.Op, a1.At, a1.Err)) else ((f_errors_as_fault a0 a1).bind fun (r24, r25, r26, r27) => (some (r24, r25, r26, r27))))
def f_errors_As_fault_post (a0 : GErr) (a1 : T_api_Fault) (g1 : Nat) : (Bool × ByteArray × Int × GErr) → Value → IM → HL → Prop :=
  fun (p_ : (Bool × ByteArray × Int × GErr)) (v : Value) (M' : IM) (H' : HL) => match p_ with | (r0, r1, r2, r3) => (.bool r0) = v ∧ H' = [[(g1, .cells #[(.string r1), (.int .i64 r2), (GV r3)] 65 (0, 0))]]
set_option maxHeartbeats 8000000 in
set_option maxRecDepth 100000 in
theorem f_errors_As_fault_ok (a0 : GErr) (a1 : T_api_Fault) (M : IM) (g1 : Nat) (hE : Env M) (res : (Bool × ByteArray × Int × GErr)) (h : f_errors_As_fault a0 a1 = some res) :
    Tri Tryd.prog 33 #[(GV a0), (.iface 67 (.pointer (some ⟨g1, 0, none⟩)))] M [[(g1, .cells (l65 a1).toArray 65 (0, 0))]] (f_errors_As_fault_post a0 a1 g1 res) := by
 unfold f_errors_As_fault at h
 refine Tri.enter (fn := Tryd.f33) Tryd.func33 rfl (Nat.le_of_ble_eq_true rfl) ?_
 intro F ρ hρ
 refine Sr ?_
 refine Pa (.bool false) rfl rfl ?_
 refine Nt ?_
 refine WC.seq ?_
 refine Sr ?_
 refine Pm (GV a0) (hρ 0) rfl ?_
 refine Pu (.bool a0.isNil) (PO.errNil Tryd.underlying28 rfl) rfl ?_
 refine Nt ?_
 refine WC.cond (b := a0.isNil) rfl (fun hb21 => ?_) (fun hb21 => ?_)
 have h := ite_t hb21 h
 refine Sr ?_
 refine Pa (.bool false) rfl rfl ?_
 refine Nt ?_
 refine WC.ret ?_
 refine WQ.thenR ?_
 exact WQ.returnsF h [[(g1, .cells (l65 a1).toArray 65 (0, 0))]] rfl (results1 rfl rfl) (IM.le.refl _) ⟨rfl, rfl⟩
 have h := ite_f hb21 h
 refine WC.skip ?_
 refine WQ.thenC ?_
 refine WC.seq ?_
 refine Sr ?_
 refine Pm (.iface 67 (.pointer (some ⟨g1, 0, none⟩))) (hρ 1) rfl ?_
 refine Pu (.bool false) (PO.ifcNil Tryd.underlying20 rfl) rfl ?_
 refine Nt ?_
 refine WC.condF (b := false) rfl rfl ?_
 refine WC.skip ?_
 refine WQ.thenC ?_
 refine Sr ?_
 refine Pm (.iface 67 (.pointer (some ⟨g1, 0, none⟩))) (hρ 1) rfl ?_
 refine WL.eff (EO.valueOf xt42 (args1 (show ev _ _ = (.iface 67 (.pointer (some ⟨g1, 0, none⟩))) from rfl)) (vo67 ⟨g1, 0, none⟩)) rfl ?_
 rintro _ _ _ - ⟨rfl, g22, rfl, rfl⟩
 refine WL.eff (EO.alloc ze89 rfl) rfl ?_
 rintro _ _ _ - ⟨rfl, g23, rfl, rfl⟩
 refine WL.eff (EO.storeL (v := (.agg #[(.pointer (some ⟨1, 67, none⟩)), (.pointer (some ⟨g22, 0, none⟩)), (.int .u64 (150 : Int))])) (vl := [(.pointer (some ⟨1, 67, none⟩)), (.pointer (some ⟨g22, 0, none⟩)), (.int .u64 (150 : Int))]) (arr' := [(.pointer (some ⟨1, 67, none⟩)), (.pointer (some ⟨g22, 0, none⟩)), (.int .u64 (150 : Int))]) rfl sz89 rfl rfl (onesOf (Ones.cons rfl (Ones.cons rfl (Ones.cons rfl Ones.nil)))) rfl rfl rfl) rfl ?_
 rintro _ _ _ - ⟨rfl, rfl⟩
 refine Ns ?_
 refine Pu (.agg #[(.pointer (some ⟨1, 67, none⟩)), (.pointer (some ⟨g22, 0, none⟩)), (.int .u64 (150 : Int))]) (PO.loadBA (cs := [(.pointer (some ⟨1, 67, none⟩)), (.pointer (some ⟨g22, 0, none⟩)), (.int .u64 (150 : Int))]) 0 ag89 sz89 rfl rfl rfl) rfl ?_
 refine WL.eff (EO.extP xt43 (args1 (show ev _ _ = (.agg #[(.pointer (some ⟨1, 67, none⟩)), (.pointer (some ⟨g22, 0, none⟩)), (.int .u64 (150 : Int))]) from rfl)) (vt67_150 _)) rfl ?_
 rintro _ _ _ - ⟨rfl, rfl, rfl⟩
 refine Pa (.iface 104 (.agg #[.pointer (some ⟨1, 67, none⟩)])) rfl rfl ?_
 refine Nt ?_
 refine WC.seq ?_
 refine Sr ?_
 refine Pm (.iface 104 (.agg #[.pointer (some ⟨1, 67, none⟩)])) rfl rfl ?_
 refine WL.eff (EO.invE (show ev _ _ = (.iface 104 (.agg #[.pointer (some ⟨1, 67, none⟩)])) from rfl) (mm_Kind (.pointer (some ⟨1, 67, none⟩))) xt67 inv0 mr_Kind_67) rfl ?_
 rintro _ _ _ - ⟨rfl, rfl, rfl⟩
 refine Pu (.bool false) (PO.neqR rfl rfl (by decide)) rfl ?_
 refine Pm (.bool false) rfl rfl ?_
 refine On 20 rfl rfl rfl ?_
 refine Pu (.agg #[(.pointer (some ⟨1, 67, none⟩)), (.pointer (some ⟨g22, 0, none⟩)), (.int .u64 (150 : Int))]) (PO.loadBA (cs := [(.pointer (some ⟨1, 67, none⟩)), (.pointer (some ⟨g22, 0, none⟩)), (.int .u64 (150 : Int))]) 0 ag89 sz89 rfl rfl rfl) rfl ?_
 refine On 20 rfl rfl rfl ?_
 refine WL.eff (EO.isNil 1 xt44 pp67_150 rfl pl67 (args1 (show ev _ _ = (.agg #[(.pointer (some ⟨1, 67, none⟩)), (.pointer (some ⟨g22, 0, none⟩)), (.int .u64 (150 : Int))]) from rfl)) rfl) rfl ?_
 rintro _ _ _ - ⟨rfl, rfl, rfl⟩
 refine Pu (.bool false) (PO.pickF rfl rfl rfl) rfl ?_
 refine Nt ?_
 refine WC.condF (b := false) rfl rfl ?_
 refine WC.skip ?_
 refine WQ.thenC ?_
 refine Sr ?_
 refine Pm (.iface 104 (.agg #[.pointer (some ⟨1, 67, none⟩)])) rfl rfl ?_
 refine WL.eff (EO.invE (show ev _ _ = (.iface 104 (.agg #[.pointer (some ⟨1, 67, none⟩)])) from rfl) (mm_Elem (.pointer (some ⟨1, 67, none⟩))) xt80 inv0 mr_Elem_67) rfl ?_
 rintro _ _ _ - ⟨rfl, rfl, rfl⟩
 refine Pa (.iface 104 (.agg #[.pointer (some ⟨1, 65, none⟩)])) rfl rfl ?_
 refine Nt ?_
 refine WC.seq ?_
 refine Sr ?_
 refine Pm (.iface 104 (.agg #[.pointer (some ⟨1, 65, none⟩)])) rfl rfl ?_
 refine WL.eff (EO.invE (show ev _ _ = (.iface 104 (.agg #[.pointer (some ⟨1, 65, none⟩)])) from rfl) (mm_Kind (.pointer (some ⟨1, 65, none⟩))) xt67 inv0 mr_Kind_65) rfl ?_
 rintro _ _ _ - ⟨rfl, rfl, rfl⟩
 refine Pu (.bool true) (PO.neqR rfl rfl (by decide)) rfl ?_
 refine Pm (.bool true) rfl rfl ?_
 refine On 30 rfl rfl rfl ?_
 refine Pm (.iface 104 (.agg #[.pointer (some ⟨1, 65, none⟩)])) rfl rfl ?_
 refine On 30 rfl rfl rfl ?_
 refine Pu (.iface 104 (.agg #[.pointer (some ⟨1, 28, none⟩)])) (PO.loadG pl92 hE) rfl ?_
 refine On 30 rfl rfl rfl ?_
 refine WL.eff (EO.invE (show ev _ _ = (.iface 104 (.agg #[.pointer (some ⟨1, 65, none⟩)])) from rfl) (mm_Implements (.pointer (some ⟨1, 65, none⟩))) xt81 (inv1 rfl) mr_Implements_65_28) rfl ?_
 rintro _ _ _ - ⟨rfl, rfl, rfl⟩
 refine On 30 rfl rfl rfl ?_
 refine Pu (.bool (!true)) (PO.not rfl) rfl ?_
 refine Pu (.bool (!true)) (PO.pickT rfl rfl rfl) rfl ?_
 refine Nt ?_
 refine WC.condF (b := !true) rfl rfl ?_
 refine WC.skip ?_
 refine WQ.thenC ?_
 refine Sr ?_
 refine Pm (GV a0) (hρ 0) rfl ?_
 refine Pm (.iface 67 (.pointer (some ⟨g1, 0, none⟩))) (hρ 1) rfl ?_
 refine Pu (.agg #[(.pointer (some ⟨1, 67, none⟩)), (.pointer (some ⟨g22, 0, none⟩)), (.int .u64 (150 : Int))]) (PO.loadBA (cs := [(.pointer (some ⟨1, 67, none⟩)), (.pointer (some ⟨g22, 0, none⟩)), (.int .u64 (150 : Int))]) 0 ag89 sz89 rfl rfl rfl) rfl ?_
 refine Pm (.iface 104 (.agg #[.pointer (some ⟨1, 65, none⟩)])) rfl rfl ?_
 obtain ⟨⟨r24, r25, r26, r27⟩, hr28, h⟩ := bnd h
 refine WL.f1 ?_
 refine WL.f2 ?_
 refine WL.eff (EO.call2 co45 (f_errors_as_fault_ok a0 a1 _ _ _ (r24, r25, r26, r27) hr28) (args4 rfl rfl rfl rfl)) rfl ?_
 rintro _ M29 _ hle30 ⟨_, ⟨rfl, rfl⟩, rfl⟩
 have hE := hE.mono hle30
 refine WL.a2 ?_
 refine Pa (.bool r24) rfl rfl ?_
 refine Nt ?_
 refine WC.ret ?_
 refine WQ.f1 ?_
 refine WQ.drop ?_
 refine WQ.f1 ?_
 refine WQ.drop ?_
 exact WQ.returnsF h [[(g1, .cells #[(.string r25), (.int .i64 r26), (GV r27)] 65 (0, 0))]] rfl (results1 rfl rfl) hle30 ⟨rfl, rfl⟩

noncomputable def f_fault_Where (a0 : GErr) : Option (Int × Bool) :=
  ((f_errors_As_fault a0 (⟨(⟨#[]⟩ : ByteArray), (0 : Int), GErr.nil⟩ : T_api_Fault)).bind fun (r22, r23, r24, r25) => (if (!r22) = true then (some ((0 : Int), false)) else (some (r24, true))))
def f_fault_Where_post (a0 : GErr) : (Int × Bool) → Value → IM → HL → Prop :=
  fun (p_ : (Int × Bool)) (v : Value) (M' : IM) (H' : HL) => match p_ with | (r0, r1) => (.tuple #[(.int .i64 r0), (.bool r1)]) = v ∧ H' = []
set_option maxHeartbeats 8000000 in
set_option maxRecDepth 100000 in
theorem f_fault_Where_ok (a0 : GErr) (M : IM) (hE : Env M) (res : (Int × Bool)) (h : f_fault_Where a0 = some res) :
    Tri Tryd.prog 10 #[(GV a0)] M [] (f_fault_Where_post a0 res) := by
 unfold f_fault_Where at h
 refine Tri.enter (fn := Tryd.f10) Tryd.func10 rfl (Nat.le_of_ble_eq_true rfl) ?_
 intro F ρ hρ
 refine Sr ?_
 refine Pa (.int .i64 (0 : Int)) rfl rfl ?_
 refine Pa (.bool false) rfl rfl ?_
 refine Ns ?_
 refine WL.eff (EO.alloc ze65 rfl) rfl ?_
 rintro _ _ _ - ⟨rfl, g21, rfl, rfl⟩
 refine Nt ?_
 refine WC.seq ?_
 refine Sr ?_
 refine Pm (GV a0) (hρ 0) rfl ?_
 refine Pu (.iface 67 (.pointer (some ⟨g21, 0, none⟩))) (PO.makeInterface cc67 rfl) rfl ?_
 obtain ⟨⟨r22, r23, r24, r25⟩, hr26, h⟩ := bnd h
 refine WL.eff (EO.call1 co33 (f_errors_As_fault_ok a0 (⟨(⟨#[]⟩ : ByteArray), (0 : Int), GErr.nil⟩ : T_api_Fault) _ _ hE (r22, r23, r24, r25) hr26) (args2 rfl rfl)) rfl ?_
 rintro _ M27 _ hle28 ⟨_, ⟨rfl, rfl⟩, rfl⟩
 have hE := hE.mono hle28
 refine WL.a1 ?_
 refine Pu (.bool (!r22)) (PO.not rfl) rfl ?_
 refine Nt ?_
 refine WC.cond (b := !r22) rfl (fun hb30 => ?_) (fun hb30 => ?_)
 have h := ite_t hb30 h
 refine Sr ?_
 refine Pa (.int .i64 (0 : Int)) rfl rfl ?_
 refine Pa (.bool false) rfl rfl ?_
 refine Nt ?_
 refine WC.ret ?_
 refine WQ.thenR ?_
 refine WQ.drop ?_
 exact WQ.returnsF h [] rfl (results2 rfl rfl rfl) hle28 ⟨rfl, rfl⟩
 have h := ite_f hb30 h
 refine WC.skip ?_
 refine WQ.thenC ?_
 refine Sr ?_
 refine Pu (.pointer (some ⟨g21, 1, none⟩)) (PO.fieldAddr fo65_1 rfl rfl) rfl ?_
 refine Pu (.int .i64 r24) (PO.loadB 0 pl3 rfl rfl rfl) rfl ?_
 refine Pa (.int .i64 r24) rfl rfl ?_
 refine Pa (.bool true) rfl rfl ?_
 refine Nt ?_
 refine WC.ret ?_
 refine WQ.drop ?_
 exact WQ.returnsF h [] rfl (results2 rfl rfl rfl) hle28 ⟨rfl, rfl⟩

noncomputable def f_api_Fault_Unwrap (a0 : T_api_Fault) : Option GErr :=
  (some a0.Err)
def f_api_Fault_Unwrap_post (a0 : T_api_Fault) : GErr → Value → IM → HL → Prop :=
  fun (r0 : GErr) (v : Value) (M' : IM) (H' : HL) => (GV r0) = v ∧ H' = []
set_option maxHeartbeats 8000000 in
set_option maxRecDepth 100000 in
theorem f_api_Fault_Unwrap_ok (a0 : T_api_Fault) (M : IM) (res : GErr) (h : f_api_Fault_Unwrap a0 = some res) :
    Tri Tryd.prog 72 #[(a65_ a0)] M [] (f_api_Fault_Unwrap_post a0 res) := by
 unfold f_api_Fault_Unwrap at h
 refine Tri.enter (fn := Tryd.f72) Tryd.func72 rfl (Nat.le_of_ble_eq_true rfl) ?_
 intro F ρ hρ
 refine Sr ?_
 refine WL.eff (EO.box (cs := (l65 a0).toArray) (congrArg Value.cells (asE (a65_ a0) (hρ 0)))) rfl ?_
 rintro _ _ _ - ⟨rfl, g21, rfl, rfl⟩
 refine Pa (GV GErr.nil) rfl rfl ?_
 refine Ns ?_
 refine Pu (.pointer (some ⟨g21, 2, none⟩)) (PO.fieldAddr fo65_2 rfl rfl) rfl ?_
 refine Pu (GV a0.Err) (PO.loadB 0 pl28 rfl rfl rfl) rfl ?_
 refine Pa (GV a0.Err) rfl rfl ?_
 refine Nt ?_
 refine WC.ret ?_
 refine WQ.drop ?_
 exact WQ.returnsF h [] rfl (results1 rfl rfl) (IM.le.refl _) ⟨rfl, rfl⟩

noncomputable def f_errors_as_code_l0 (a1 : Int) (s_ : GErr) : Option (GErr ⊕ (Bool × Int)) :=
  match s_ with
  | x23 =>
    (match x23 with | .nil => none | .code n26 => (some (Sum.inr (true, n26))) | .fault o27 a28 e29 => ((f_api_Fault_Unwrap (⟨o27, a28, e29⟩ : T_api_Fault)).bind fun (r32 : GErr) => (if r32.isNil = true then (some (Sum.inr (false, a1))) else (some (Sum.inl r32)))) | .other b30 => (some (Sum.inr (false, a1))))
noncomputable def f_errors_as_code (a0 : GErr) (a1 : Int) : Option (Bool × Int) :=
  ((iter (f_errors_as_code_l0 a1) a0).bind (fun (x24, x25) => (some (x24, x25))))
def f_errors_as_code_post (a0 : GErr) (a1 : Int) (g1 g2 : Nat) : (Bool × Int) → Value → IM → HL → Prop :=
  fun (p_ : (Bool × Int)) (v : Value) (M' : IM) (H' : HL) => match p_ with | (r0, r1) => (.bool r0) = v ∧ H' = [[(g1, .cells #[(.int .i64 r1)] 35 (0, 0))], [(g2, .cells #[(.pointer (some ⟨g1, 0, none⟩))] 68 (0, 0))]]
set_option maxHeartbeats 8000000 in
set_option maxRecDepth 100000 in
theorem f_errors_as_code_ok (a0 : GErr) (a1 : Int) (M : IM) (g1 g2 : Nat) (res : (Bool × Int)) (h : f_errors_as_code a0 a1 = some res) :
    Tri Tryd.prog 45 #[(GV a0), (.iface 68 (.pointer (some ⟨g1, 0, none⟩))), (.agg #[(.pointer (some ⟨1, 68, none⟩)), (.pointer (some ⟨g2, 0, none⟩)), (.int .u64 (150 : Int))]), (.iface 104 (.agg #[.pointer (some ⟨1, 35, none⟩)]))] M [[(g1, .cells #[(.int .i64 a1)] 35 (0, 0))], [(g2, .cells #[(.pointer (some ⟨g1, 0, none⟩))] 68 (0, 0))]] (f_errors_as_code_post a0 a1 g1 g2 res) := by
 unfold f_errors_as_code at h
 refine Tri.enter (fn := Tryd.f45) Tryd.func45 rfl (Nat.le_of_ble_eq_true rfl) ?_
 intro F ρ hρ
 refine Sr ?_
 refine WL.eff (EO.box (cs := #[(.pointer (some ⟨1, 68, none⟩)), (.pointer (some ⟨g2, 0, none⟩)), (.int .u64 (150 : Int))]) (congrArg Value.cells (asE (.agg #[(.pointer (some ⟨1, 68, none⟩)), (.pointer (some ⟨g2, 0, none⟩)), (.int .u64 (150 : Int))]) (hρ 2)))) rfl ?_
 rintro _ _ _ - ⟨rfl, g21, rfl, rfl⟩
 refine Pa (.bool false) rfl rfl ?_
 refine Nt ?_
 refine WC.block ?_
 obtain ⟨e22, he22, hK22⟩ := bnd h
 clear h
 refine WC.loop he22 (fun (x23 : GErr) ρ' M' H' => M.le M' ∧ [(g21, .cells #[(.pointer (some ⟨1, 68, none⟩)), (.pointer (some ⟨g2, 0, none⟩)), (.int .u64 (150 : Int))] 89 (0, 0))] :: [(g1, .cells #[(.int .i64 a1)] 35 (0, 0))] :: [(g2, .cells #[(.pointer (some ⟨g1, 0, none⟩))] 68 (0, 0))] :: F = H' ∧ ρ' 0 = (GV x23) ∧ ρ' 1 = (.iface 68 (.pointer (some ⟨g1, 0, none⟩))) ∧ ρ' 3 = (.iface 104 (.agg #[.pointer (some ⟨1, 35, none⟩)])) ∧ ρ' 6 = (.pointer (some ⟨g21, 0, none⟩))) ?_ ?_
 exact ⟨(IM.le.refl _), rfl, (hρ 0), (hρ 1), (hρ 3), rfl⟩
 rintro x23 o22 ρ22 M22 H22 h ⟨hle22, rfl, hs22_0, hs22_1, hs22_3, hs22_6⟩
 unfold f_errors_as_code_l0 at h
 refine WC.block ?_
 refine WC.seq ?_
 refine Sr ?_
 refine Pm (GV x23) hs22_0 rfl ?_
 rcases x23 with _ | n26 | ⟨o27, a28, e29⟩ | b30
 refine WL.eff (EO.extP xt49 (args1 (show ev _ _ = .nilIface from rfl)) tyNil) rfl ?_
 rintro _ _ _ - ⟨rfl, rfl, rfl⟩
 refine Pm (.iface 104 (.agg #[.pointer (some ⟨1, 35, none⟩)])) hs22_3 rfl ?_
 exact nones h
 refine WL.eff (EO.extP xt49 (args1 (show ev _ _ = (.iface 35 (.int .i64 n26)) from rfl)) (ty35 _)) rfl ?_
 rintro _ _ _ - ⟨rfl, rfl, rfl⟩
 refine Pm (.iface 104 (.agg #[.pointer (some ⟨1, 35, none⟩)])) hs22_3 rfl ?_
 refine WL.eff (EO.invE (show ev _ _ = (.iface 104 (.agg #[.pointer (some ⟨1, 35, none⟩)])) from rfl) (mm_AssignableTo (.pointer (some ⟨1, 35, none⟩))) xt78 (inv1 rfl) mr_AssignableTo_35_35) rfl ?_
 rintro _ _ _ - ⟨rfl, rfl, rfl⟩
 refine Nt ?_
 refine WC.condT (b := true) rfl rfl ?_
 refine Sr ?_
 refine Pu (.agg #[(.pointer (some ⟨1, 68, none⟩)), (.pointer (some ⟨g2, 0, none⟩)), (.int .u64 (150 : Int))]) (PO.loadBA (cs := [(.pointer (some ⟨1, 68, none⟩)), (.pointer (some ⟨g2, 0, none⟩)), (.int .u64 (150 : Int))]) 0 ag89 sz89 hs22_6 rfl rfl) rfl ?_
 refine WL.eff (EO.rvElem (r := fun p => .agg #[(.pointer (some ⟨1, 35, none⟩)), .pointer (some p), .int .u64 386]) 2 xt51 pp68_150 rfl pl68 el68 mk35 (args1 (show ev _ _ = (.agg #[(.pointer (some ⟨1, 68, none⟩)), (.pointer (some ⟨g2, 0, none⟩)), (.int .u64 (150 : Int))]) from rfl)) rfl) rfl ?_
 rintro _ _ _ - ⟨rfl, rfl, rfl⟩
 refine Pm (GV (GErr.code n26)) hs22_0 rfl ?_
 refine WL.eff (EO.valueOf xt42 (args1 (show ev _ _ = (.iface 35 (.int .i64 n26)) from rfl)) (vo35 n26)) rfl ?_
 rintro _ _ _ - ⟨rfl, g31, rfl, rfl⟩
 refine WL.f2 ?_
 refine WL.eff (EO.rvSet (arr := [(.int .i64 a1)]) (vl := [(.int .i64 n26)]) (v := (.int .i64 n26)) xt52 pp35_386 pp35_130 rfl da35 (args2 (show ev _ _ = (.agg #[(.pointer (some ⟨1, 35, none⟩)), (.pointer (some ⟨g1, 0, none⟩)), (.int .u64 (386 : Int))]) from rfl) (show ev _ _ = (.agg #[(.pointer (some ⟨1, 35, none⟩)), (.pointer (some ⟨g31, 0, none⟩)), (.int .u64 (130 : Int))]) from rfl)) (fun _ hs => run_loadPlain pl35 (hs.cellC 1 rfl (chunkCell_lit.trans rfl))) rfl sz35 rfl (onesOf (Ones.cons rfl Ones.nil))) rfl ?_
 rintro _ _ _ - ⟨rfl, rfl, rfl⟩
 refine Ns ?_
 refine Pa (.bool true) rfl rfl ?_
 refine Nt ?_
 refine WC.ret ?_
 refine WQ.thenR ?_
 refine WQ.blockR ?_
 refine WQ.leaveR (true, n26) (Option.some.inj h).symm (fun heq22 => ?_)
 subst heq22
 have h := hK22
 refine WQ.blockR ?_
 refine WQ.f1 ?_
 refine WQ.drop ?_
 refine WQ.f1 ?_
 refine WQ.drop ?_
 exact WQ.returnsF h [[(g1, .cells #[(.int .i64 n26)] 35 (0, 0))], [(g2, .cells #[(.pointer (some ⟨g1, 0, none⟩))] 68 (0, 0))]] rfl (results1 rfl rfl) hle22 ⟨rfl, rfl⟩
 refine WL.eff (EO.extP xt49 (args1 (show ev _ _ = (.iface 65 (.agg #[.string o27, .int .i64 a28, GV e29])) from rfl)) (ty65 _)) rfl ?_
 rintro _ _ _ - ⟨rfl, rfl, rfl⟩
 refine Pm (.iface 104 (.agg #[.pointer (some ⟨1, 35, none⟩)])) hs22_3 rfl ?_
 refine WL.eff (EO.invE (show ev _ _ = (.iface 104 (.agg #[.pointer (some ⟨1, 65, none⟩)])) from rfl) (mm_AssignableTo (.pointer (some ⟨1, 65, none⟩))) xt78 (inv1 rfl) mr_AssignableTo_65_35) rfl ?_
 rintro _ _ _ - ⟨rfl, rfl, rfl⟩
 refine Nt ?_
 refine WC.condF (b := false) rfl rfl ?_
 refine WC.skip ?_
 refine WQ.thenC ?_
 refine WC.seq ?_
 refine Sr ?_
 refine Pm (GV (GErr.fault o27 a28 e29)) hs22_0 rfl ?_
 refine Pu (.tuple #[.nilIface, (.bool false)]) (PO.asserts (show ev _ _ = (.iface 65 (.agg #[.string o27, .int .i64 a28, GV e29])) from rfl) (la65_108 _ _)) rfl ?_
 refine Pm (.tuple #[.nilIface, (.bool false)]) rfl rfl ?_
 refine Pu .nilIface (PO.extract rfl rfl) rfl ?_
 refine Pu (.bool false) (PO.extract rfl rfl) rfl ?_
 refine Pa .nilIface rfl rfl ?_
 refine Pa (.bool false) rfl rfl ?_
 refine Ns ?_
 refine Pm (.bool false) rfl rfl ?_
 refine Pm (.bool false) rfl rfl ?_
 iterate 3 refine Of 31 rfl rfl rfl rfl ?_
 refine Pu (.bool false) (PO.pickF rfl rfl rfl) rfl ?_
 refine Nt ?_
 refine WC.condF (b := false) rfl rfl ?_
 refine WC.skip ?_
 refine WQ.thenC ?_
 refine Sr ?_
 refine Pm (GV (GErr.fault o27 a28 e29)) hs22_0 rfl ?_
 refine Nt ?_
 refine WC.block ?_
 refine Sr ?_
 refine Pu (.tuple #[(GV (GErr.fault o27 a28 e29)), (.bool true)]) (PO.asserts (show ev _ _ = (.iface 65 (.agg #[.string o27, .int .i64 a28, GV e29])) from rfl) (ha65_111 _ _)) rfl ?_
 refine Pu (.bool true) (PO.extract rfl rfl) rfl ?_
 refine Pu (GV (GErr.fault o27 a28 e29)) (PO.extract rfl rfl) rfl ?_
 refine Nt ?_
 refine WC.condT (b := true) rfl rfl ?_
 refine Sr ?_
 refine Pa (GV (GErr.fault o27 a28 e29)) rfl rfl ?_
 refine Ns ?_
 refine Pm (GV (GErr.fault o27 a28 e29)) rfl rfl ?_
 obtain ⟨r32, hr33, h⟩ := bnd h
 refine WL.eff (EO.invT (show ev _ _ = (.iface 65 (.agg #[.string o27, .int .i64 a28, GV e29])) from rfl) (me65_Unwrap _) co72 inv0 (f_api_Fault_Unwrap_ok (⟨o27, a28, e29⟩ : T_api_Fault) _ r32 hr33)) rfl ?_
 rintro _ M34 _ hle35 ⟨_, ⟨rfl, rfl⟩, rfl⟩
 refine WL.a0 ?_
 refine Pa (GV r32) rfl rfl ?_
 refine Ns ?_
 refine Pm (GV r32) rfl rfl ?_
 refine Pu (.bool r32.isNil) (PO.errNil Tryd.underlying28 rfl) rfl ?_
 refine Nt ?_
 refine WC.cond (b := r32.isNil) rfl (fun hb37 => ?_) (fun hb37 => ?_)
 have h := ite_t hb37 h
 refine Sr ?_
 refine Pa (.bool false) rfl rfl ?_
 refine Nt ?_
 refine WC.ret ?_
 refine WQ.blockR ?_
 refine WQ.blockR ?_
 refine WQ.leaveR (false, a1) (Option.some.inj h).symm (fun heq22 => ?_)
 subst heq22
 have h := hK22
 refine WQ.blockR ?_
 refine WQ.drop ?_
 exact WQ.returnsF h [[(g1, .cells #[(.int .i64 a1)] 35 (0, 0))], [(g2, .cells #[(.pointer (some ⟨g1, 0, none⟩))] 68 (0, 0))]] rfl (results1 rfl rfl) (hle22.trans hle35) ⟨rfl, rfl⟩
 have h := ite_f hb37 h
 refine WC.skip ?_
 refine WQ.blockN ?_
 refine WQ.blockN ?_
 refine WQ.again r32 (Option.some.inj h).symm ?_
 exact ⟨(hle22.trans hle35), rfl, rfl, hs22_1, hs22_3, hs22_6⟩
 refine WL.eff (EO.extP xt49 (args1 (show ev _ _ = (.iface 83 (.pointer (some b30))) from rfl)) (ty83 _)) rfl ?_
 rintro _ _ _ - ⟨rfl, rfl, rfl⟩
 refine Pm (.iface 104 (.agg #[.pointer (some ⟨1, 35, none⟩)])) hs22_3 rfl ?_
 refine WL.eff (EO.invE (show ev _ _ = (.iface 104 (.agg #[.pointer (some ⟨1, 83, none⟩)])) from rfl) (mm_AssignableTo (.pointer (some ⟨1, 83, none⟩))) xt78 (inv1 rfl) mr_AssignableTo_83_35) rfl ?_
 rintro _ _ _ - ⟨rfl, rfl, rfl⟩
 refine Nt ?_
 refine WC.condF (b := false) rfl rfl ?_
 refine WC.skip ?_
 refine WQ.thenC ?_
 refine WC.seq ?_
 refine Sr ?_
 refine Pm (GV (GErr.other b30)) hs22_0 rfl ?_
 refine Pu (.tuple #[.nilIface, (.bool false)]) (PO.asserts (show ev _ _ = (.iface 83 (.pointer (some b30))) from rfl) (la83_108 _ _)) rfl ?_
 refine Pm (.tuple #[.nilIface, (.bool false)]) rfl rfl ?_
 refine Pu .nilIface (PO.extract rfl rfl) rfl ?_
 refine Pu (.bool false) (PO.extract rfl rfl) rfl ?_
 refine Pa .nilIface rfl rfl ?_
 refine Pa (.bool false) rfl rfl ?_
 refine Ns ?_
 refine Pm (.bool false) rfl rfl ?_
 refine Pm (.bool false) rfl rfl ?_
 iterate 3 refine Of 31 rfl rfl rfl rfl ?_
 refine Pu (.bool false) (PO.pickF rfl rfl rfl) rfl ?_
 refine Nt ?_
 refine WC.condF (b := false) rfl rfl ?_
 refine WC.skip ?_
 refine WQ.thenC ?_
 refine Sr ?_
 refine Pm (GV (GErr.other b30)) hs22_0 rfl ?_
 refine Nt ?_
 refine WC.block ?_
 refine Sr ?_
 refine Pu (.tuple #[.nilIface, (.bool false)]) (PO.asserts (show ev _ _ = (.iface 83 (.pointer (some b30))) from rfl) (la83_111 _ _)) rfl ?_
 refine Pu (.bool false) (PO.extract rfl rfl) rfl ?_
 refine Pu .nilIface (PO.extract rfl rfl) rfl ?_
 refine Nt ?_
 refine WC.condF (b := false) rfl rfl ?_
 refine Sr ?_
 refine Pu (.tuple #[.nilIface, (.bool false)]) (PO.asserts (show ev _ _ = (.iface 83 (.pointer (some b30))) from rfl) (la83_113 _ _)) rfl ?_
 refine Pu (.bool false) (PO.extract rfl rfl) rfl ?_
 refine Pu .nilIface (PO.extract rfl rfl) rfl ?_
 refine Nt ?_
 refine WC.condF (b := false) rfl rfl ?_
 refine Sr ?_
 refine Pa (GV (GErr.other b30)) rfl rfl ?_
 refine Ns ?_
 refine Pa (.bool false) rfl rfl ?_
 refine Nt ?_
 refine WC.ret ?_
 refine WQ.blockR ?_
 refine WQ.blockR ?_
 refine WQ.leaveR (false, a1) (Option.some.inj h).symm (fun heq22 => ?_)
 subst heq22
 have h := hK22
 refine WQ.blockR ?_
 refine WQ.drop ?_
 exact WQ.returnsF h [[(g1, .cells #[(.int .i64 a1)] 35 (0, 0))], [(g2, .cells #[(.pointer (some ⟨g1, 0, none⟩))] 68 (0, 0))]] rfl (results1 rfl rfl) hle22 ⟨rfl, rfl⟩

noncomputable def f_errors_As_code (a0 : GErr) (a1 : Int) : Option (Bool × Int) :=
  (if a0.isNil = true then (some (false, a1)) else ((f_errors_as_code a0 a1).bind fun (r24, r25) => (some (r24, r25))))
def f_errors_As_code_post (a0 : GErr) (a1 : Int) (g1 : Nat) : (Bool × Int) → Value → IM → HL → Prop :=
  fun (p_ : (Bool × Int)) (v : Value) (M' : IM) (H' : HL) => match p_ with | (r0, r1) => (.bool r0) = v ∧ H' = [[(g1, .cells #[(.int .i64 r1)] 35 (0, 0))]]
set_option maxHeartbeats 8000000 in
set_option maxRecDepth 100000 in
theorem f_errors_As_code_ok (a0 : GErr) (a1 : Int) (M : IM) (g1 : Nat) (hE : Env M) (res : (Bool × Int)) (h : f_errors_As_code a0 a1 = some res) :
    Tri Tryd.prog 33 #[(GV a0), (.iface 68 (.pointer (some ⟨g1, 0, none⟩)))] M [[(g1, .cells #[(.int .i64 a1)] 35 (0, 0))]] (f_errors_As_code_post a0 a1 g1 res) := by
 unfold f_errors_As_code at h
 refine Tri.enter (fn := Tryd.f33) Tryd.func33 rfl (Nat.le_of_ble_eq_true rfl) ?_
 intro F ρ hρ
 refine Sr ?_
 refine Pa (.bool false) rfl rfl ?_
 refine Nt ?_
 refine WC.seq ?_
 refine Sr ?_
 refine Pm (GV a0) (hρ 0) rfl ?_
 refine Pu (.bool a0.isNil) (PO.errNil Tryd.underlying28 rfl) rfl ?_
 refine Nt ?_
 refine WC.cond (b := a0.isNil) rfl (fun hb21 => ?_) (fun hb21 => ?_)
 have h := ite_t hb21 h
 refine Sr ?_
 refine Pa (.bool false) rfl rfl ?_
 refine Nt ?_
 refine WC.ret ?_
 refine WQ.thenR ?_
 exact WQ.returnsF h [[(g1, .cells #[(.int .i64 a1)] 35 (0, 0))]] rfl (results1 rfl rfl) (IM.le.refl _) ⟨rfl, rfl⟩
 have h := ite_f hb21 h
 refine WC.skip ?_
 refine WQ.thenC ?_
 refine WC.seq ?_
 refine Sr ?_
 refine Pm (.iface 68 (.pointer (some ⟨g1, 0, none⟩))) (hρ 1) rfl ?_
 refine Pu (.bool false) (PO.ifcNil Tryd.underlying20 rfl) rfl ?_
 refine Nt ?_
 refine WC.condF (b := false) rfl rfl ?_
 refine WC.skip ?_
 refine WQ.thenC ?_
 refine Sr ?_
 refine Pm (.iface 68 (.pointer (some ⟨g1, 0, none⟩))) (hρ 1) rfl ?_
 refine WL.eff (EO.valueOf xt42 (args1 (show ev _ _ = (.iface 68 (.pointer (some ⟨g1, 0, none⟩))) from rfl)) (vo68 ⟨g1, 0, none⟩)) rfl ?_
 rintro _ _ _ - ⟨rfl, g22, rfl, rfl⟩
 refine WL.eff (EO.alloc ze89 rfl) rfl ?_
 rintro _ _ _ - ⟨rfl, g23, rfl, rfl⟩
 refine WL.eff (EO.storeL (v := (.agg #[(.pointer (some ⟨1, 68, none⟩)), (.pointer (some ⟨g22, 0, none⟩)), (.int .u64 (150 : Int))])) (vl := [(.pointer (some ⟨1, 68, none⟩)), (.pointer (some ⟨g22, 0, none⟩)), (.int .u64 (150 : Int))]) (arr' := [(.pointer (some ⟨1, 68, none⟩)), (.pointer (some ⟨g22, 0, none⟩)), (.int .u64 (150 : Int))]) rfl sz89 rfl rfl (onesOf (Ones.cons rfl (Ones.cons rfl (Ones.cons rfl Ones.nil)))) rfl rfl rfl) rfl ?_
 rintro _ _ _ - ⟨rfl, rfl⟩
 refine Ns ?_
 refine Pu (.agg #[(.pointer (some ⟨1, 68, none⟩)), (.pointer (some ⟨g22, 0, none⟩)), (.int .u64 (150 : Int))]) (PO.loadBA (cs := [(.pointer (some ⟨1, 68, none⟩)), (.pointer (some ⟨g22, 0, none⟩)), (.int .u64 (150 : Int))]) 0 ag89 sz89 rfl rfl rfl) rfl ?_
 refine WL.eff (EO.extP xt43 (args1 (show ev _ _ = (.agg #[(.pointer (some ⟨1, 68, none⟩)), (.pointer (some ⟨g22, 0, none⟩)), (.int .u64 (150 : Int))]) from rfl)) (vt68_150 _)) rfl ?_
 rintro _ _ _ - ⟨rfl, rfl, rfl⟩
 refine Pa (.iface 104 (.agg #[.pointer (some ⟨1, 68, none⟩)])) rfl rfl ?_
 refine Nt ?_
 refine WC.seq ?_
 refine Sr ?_
 refine Pm (.iface 104 (.agg #[.pointer (some ⟨1, 68, none⟩)])) rfl rfl ?_
 refine WL.eff (EO.invE (show ev _ _ = (.iface 104 (.agg #[.pointer (some ⟨1, 68, none⟩)])) from rfl) (mm_Kind (.pointer (some ⟨1, 68, none⟩))) xt67 inv0 mr_Kind_68) rfl ?_
 rintro _ _ _ - ⟨rfl, rfl, rfl⟩
 refine Pu (.bool false) (PO.neqR rfl rfl (by decide)) rfl ?_
 refine Pm (.bool false) rfl rfl ?_
 refine On 20 rfl rfl rfl ?_
 refine Pu (.agg #[(.pointer (some ⟨1, 68, none⟩)), (.pointer (some ⟨g22, 0, none⟩)), (.int .u64 (150 : Int))]) (PO.loadBA (cs := [(.pointer (some ⟨1, 68, none⟩)), (.pointer (some ⟨g22, 0, none⟩)), (.int .u64 (150 : Int))]) 0 ag89 sz89 rfl rfl rfl) rfl ?_
 refine On 20 rfl rfl rfl ?_
 refine WL.eff (EO.isNil 1 xt44 pp68_150 rfl pl68 (args1 (show ev _ _ = (.agg #[(.pointer (some ⟨1, 68, none⟩)), (.pointer (some ⟨g22, 0, none⟩)), (.int .u64 (150 : Int))]) from rfl)) rfl) rfl ?_
 rintro _ _ _ - ⟨rfl, rfl, rfl⟩
 refine Pu (.bool false) (PO.pickF rfl rfl rfl) rfl ?_
 refine Nt ?_
 refine WC.condF (b := false) rfl rfl ?_
 refine WC.skip ?_
 refine WQ.thenC ?_
 refine Sr ?_
 refine Pm (.iface 104 (.agg #[.pointer (some ⟨1, 68, none⟩)])) rfl rfl ?_
 refine WL.eff (EO.invE (show ev _ _ = (.iface 104 (.agg #[.pointer (some ⟨1, 68, none⟩)])) from rfl) (mm_Elem (.pointer (some ⟨1, 68, none⟩))) xt80 inv0 mr_Elem_68) rfl ?_
 rintro _ _ _ - ⟨rfl, rfl, rfl⟩
 refine Pa (.iface 104 (.agg #[.pointer (some ⟨1, 35, none⟩)])) rfl rfl ?_
 refine Nt ?_
 refine WC.seq ?_
 refine Sr ?_
 refine Pm (.iface 104 (.agg #[.pointer (some ⟨1, 35, none⟩)])) rfl rfl ?_
 refine WL.eff (EO.invE (show ev _ _ = (.iface 104 (.agg #[.pointer (some ⟨1, 35, none⟩)])) from rfl) (mm_Kind (.pointer (some ⟨1, 35, none⟩))) xt67 inv0 mr_Kind_35) rfl ?_
 rintro _ _ _ - ⟨rfl, rfl, rfl⟩
 refine Pu (.bool true) (PO.neqR rfl rfl (by decide)) rfl ?_
 refine Pm (.bool true) rfl rfl ?_
 refine On 30 rfl rfl rfl ?_
 refine Pm (.iface 104 (.agg #[.pointer (some ⟨1, 35, none⟩)])) rfl rfl ?_
 refine On 30 rfl rfl rfl ?_
 refine Pu (.iface 104 (.agg #[.pointer (some ⟨1, 28, none⟩)])) (PO.loadG pl92 hE) rfl ?_
 refine On 30 rfl rfl rfl ?_
 refine WL.eff (EO.invE (show ev _ _ = (.iface 104 (.agg #[.pointer (some ⟨1, 35, none⟩)])) from rfl) (mm_Implements (.pointer (some ⟨1, 35, none⟩))) xt81 (inv1 rfl) mr_Implements_35_28) rfl ?_
 rintro _ _ _ - ⟨rfl, rfl, rfl⟩
 refine On 30 rfl rfl rfl ?_
 refine Pu (.bool (!true)) (PO.not rfl) rfl ?_
 refine Pu (.bool (!true)) (PO.pickT rfl rfl rfl) rfl ?_
 refine Nt ?_
 refine WC.condF (b := !true) rfl rfl ?_
 refine WC.skip ?_
 refine WQ.thenC ?_
 refine Sr ?_
 refine Pm (GV a0) (hρ 0) rfl ?_
 refine Pm (.iface 68 (.pointer (some ⟨g1, 0, none⟩))) (hρ 1) rfl ?_
 refine Pu (.agg #[(.pointer (some ⟨1, 68, none⟩)), (.pointer (some ⟨g22, 0, none⟩)), (.int .u64 (150 : Int))]) (PO.loadBA (cs := [(.pointer (some ⟨1, 68, none⟩)), (.pointer (some ⟨g22, 0, none⟩)), (.int .u64 (150 : Int))]) 0 ag89 sz89 rfl rfl rfl) rfl ?_
 refine Pm (.iface 104 (.agg #[.pointer (some ⟨1, 35, none⟩)])) rfl rfl ?_
 obtain ⟨⟨r24, r25⟩, hr26, h⟩ := bnd h
 refine WL.f1 ?_
 refine WL.f2 ?_
 refine WL.eff (EO.call2 co45 (f_errors_as_code_ok a0 a1 _ _ _ (r24, r25) hr26) (args4 rfl rfl rfl rfl)) rfl ?_
 rintro _ M27 _ hle28 ⟨_, ⟨rfl, rfl⟩, rfl⟩
 have hE := hE.mono hle28
 refine WL.a2 ?_
 refine Pa (.bool r24) rfl rfl ?_
 refine Nt ?_
 refine WC.ret ?_
 refine WQ.f1 ?_
 refine WQ.drop ?_
 refine WQ.f1 ?_
 refine WQ.drop ?_
 exact WQ.returnsF h [[(g1, .cells #[(.int .i64 r25)] 35 (0, 0))]] rfl (results1 rfl rfl) hle28 ⟨rfl, rfl⟩

noncomputable def f_fault_Of (a0 : GErr) : Option Int :=
  (if a0.isNil = true then (some (0 : Int)) else ((f_errors_As_code a0 (0 : Int)).bind fun (r23, r24) => (if r23 = true then (some r24) else (some (21 : Int)))))
def f_fault_Of_post (a0 : GErr) : Int → Value → IM → HL → Prop :=
  fun (r0 : Int) (v : Value) (M' : IM) (H' : HL) => (.int .i64 r0) = v ∧ H' = []
set_option maxHeartbeats 8000000 in
set_option maxRecDepth 100000 in
theorem f_fault_Of_ok (a0 : GErr) (M : IM) (hE : Env M) (res : Int) (h : f_fault_Of a0 = some res) :
    Tri Tryd.prog 12 #[(GV a0)] M [] (f_fault_Of_post a0 res) := by
 unfold f_fault_Of at h
 refine Tri.enter (fn := Tryd.f12) Tryd.func12 rfl (Nat.le_of_ble_eq_true rfl) ?_
 intro F ρ hρ
 refine Sr ?_
 refine Pa (.int .i64 (0 : Int)) rfl rfl ?_
 refine Nt ?_
 refine WC.seq ?_
 refine Sr ?_
 refine Pm (GV a0) (hρ 0) rfl ?_
 refine Pu (.bool a0.isNil) (PO.errNil Tryd.underlying28 rfl) rfl ?_
 refine Nt ?_
 refine WC.cond (b := a0.isNil) rfl (fun hb21 => ?_) (fun hb21 => ?_)
 have h := ite_t hb21 h
 refine Sr ?_
 refine Pa (.int .i64 (0 : Int)) rfl rfl ?_
 refine Nt ?_
 refine WC.ret ?_
 refine WQ.thenR ?_
 exact WQ.returnsF h [] rfl (results1 rfl rfl) (IM.le.refl _) ⟨rfl, rfl⟩
 have h := ite_f hb21 h
 refine WC.skip ?_
 refine WQ.thenC ?_
 refine Sr ?_
 refine WL.eff (EO.alloc ze35 rfl) rfl ?_
 rintro _ _ _ - ⟨rfl, g22, rfl, rfl⟩
 refine Nt ?_
 refine WC.seq ?_
 refine Sr ?_
 refine Pm (GV a0) (hρ 0) rfl ?_
 refine Pu (.iface 68 (.pointer (some ⟨g22, 0, none⟩))) (PO.makeInterface cc68 rfl) rfl ?_
 obtain ⟨⟨r23, r24⟩, hr25, h⟩ := bnd h
 refine WL.eff (EO.call1 co33 (f_errors_As_code_ok a0 (0 : Int) _ _ hE (r23, r24) hr25) (args2 rfl rfl)) rfl ?_
 rintro _ M26 _ hle27 ⟨_, ⟨rfl, rfl⟩, rfl⟩
 have hE := hE.mono hle27
 refine WL.a1 ?_
 refine Nt ?_
 refine WC.cond (b := r23) rfl (fun hb29 => ?_) (fun hb29 => ?_)
 have h := ite_t hb29 h
 refine Sr ?_
 refine Pu (.int .i64 r24) (PO.loadB 0 pl35 rfl rfl rfl) rfl ?_
 refine Pa (.int .i64 r24) rfl rfl ?_
 refine Nt ?_
 refine WC.ret ?_
 refine WQ.thenR ?_
 refine WQ.drop ?_
 exact WQ.returnsF h [] rfl (results1 rfl rfl) hle27 ⟨rfl, rfl⟩
 have h := ite_f hb29 h
 refine WC.skip ?_
 refine WQ.thenC ?_
 refine Sr ?_
 refine Pa (.int .i64 (21 : Int)) rfl rfl ?_
 refine Nt ?_
 refine WC.ret ?_
 refine WQ.drop ?_
 exact WQ.returnsF h [] rfl (results1 rfl rfl) hle27 ⟨rfl, rfl⟩

noncomputable def f_errors_is_l0 (a1 : Int) (s_ : GErr) : Option (GErr ⊕ Bool) :=
  match s_ with
  | x22 =>
    (match x22 with | .nil => (some (Sum.inr false)) | .code n24 => (if (decide (n24 = a1)) = true then (some (Sum.inr true)) else (some (Sum.inr false))) | .fault o25 a26 e27 => ((f_api_Fault_Unwrap (⟨o25, a26, e27⟩ : T_api_Fault)).bind fun (r30 : GErr) => (if r30.isNil = true then (some (Sum.inr false)) else (some (Sum.inl r30)))) | .other b28 => (some (Sum.inr false)))
noncomputable def f_errors_is (a0 : GErr) (a1 : Int) : Option Bool :=
  ((iter (f_errors_is_l0 a1) a0).bind (fun (x23 : Bool) => (some x23)))
def f_errors_is_post (a0 : GErr) (a1 : Int) : Bool → Value → IM → HL → Prop :=
  fun (r0 : Bool) (v : Value) (M' : IM) (H' : HL) => (.bool r0) = v ∧ H' = []
set_option maxHeartbeats 8000000 in
set_option maxRecDepth 100000 in
theorem f_errors_is_ok (a0 : GErr) (a1 : Int) (M : IM) (res : Bool) (h : f_errors_is a0 a1 = some res) :
    Tri Tryd.prog 50 #[(GV a0), (GV (GErr.code a1)), (.bool true)] M [] (f_errors_is_post a0 a1 res) := by
 unfold f_errors_is at h
 refine Tri.enter (fn := Tryd.f50) Tryd.func50 rfl (Nat.le_of_ble_eq_true rfl) ?_
 intro F ρ hρ
 refine Sr ?_
 refine Pa (.bool false) rfl rfl ?_
 refine Nt ?_
 refine WC.block ?_
 obtain ⟨e21, he21, hK21⟩ := bnd h
 clear h
 refine WC.loop he21 (fun (x22 : GErr) ρ' M' H' => M.le M' ∧ F = H' ∧ ρ' 0 = (GV x22) ∧ ρ' 1 = (GV (GErr.code a1)) ∧ ρ' 2 = (.bool true)) ?_ ?_
 exact ⟨(IM.le.refl _), rfl, (hρ 0), (hρ 1), (hρ 2)⟩
 rintro x22 o21 ρ21 M21 H21 h ⟨hle21, rfl, hs21_0, hs21_1, hs21_2⟩
 unfold f_errors_is_l0 at h
 refine WC.block ?_
 refine WC.seq ?_
 refine Sr ?_
 refine Pm (.bool true) hs21_2 rfl ?_
 refine Pm (.bool true) rfl rfl ?_
 refine On 15 rfl rfl rfl ?_
 refine Pm (GV x22) hs21_0 rfl ?_
 refine On 15 rfl rfl rfl ?_
 refine Pm (GV (GErr.code a1)) hs21_1 rfl ?_
 refine On 15 rfl rfl rfl ?_
 rcases x22 with _ | n24 | ⟨o25, a26, e27⟩ | b28
 refine Pu (.bool false) (PO.nilIfaceNe Tryd.underlying28 (show ev _ _ = .nilIface from rfl) (show ev _ _ = (.iface 35 (.int .i64 a1)) from rfl)) rfl ?_
 refine Pu (.bool false) (PO.pickT rfl rfl rfl) rfl ?_
 refine Nt ?_
 refine WC.condF (b := false) rfl rfl ?_
 refine WC.skip ?_
 refine WQ.thenC ?_
 refine WC.seq ?_
 refine Sr ?_
 refine Pm (GV GErr.nil) hs21_0 rfl ?_
 refine Pu (.tuple #[.nilIface, (.bool false)]) (PO.asserts (show ev _ _ = .nilIface from rfl) (run_assert_nil zo117 Tryd.underlying117)) rfl ?_
 refine Pm (.tuple #[.nilIface, (.bool false)]) rfl rfl ?_
 refine Pu .nilIface (PO.extract rfl rfl) rfl ?_
 refine Pu (.bool false) (PO.extract rfl rfl) rfl ?_
 refine Pa .nilIface rfl rfl ?_
 refine Pa (.bool false) rfl rfl ?_
 refine Ns ?_
 refine Pm (.bool false) rfl rfl ?_
 refine Pm (.bool false) rfl rfl ?_
 iterate 3 refine Of 26 rfl rfl rfl rfl ?_
 refine Pu (.bool false) (PO.pickF rfl rfl rfl) rfl ?_
 refine Nt ?_
 refine WC.condF (b := false) rfl rfl ?_
 refine WC.skip ?_
 refine WQ.thenC ?_
 refine Sr ?_
 refine Pm (GV GErr.nil) hs21_0 rfl ?_
 refine Nt ?_
 refine WC.block ?_
 refine Sr ?_
 refine Pu (.tuple #[.nilIface, (.bool false)]) (PO.asserts (show ev _ _ = .nilIface from rfl) (run_assert_nil zo111 Tryd.underlying111)) rfl ?_
 refine Pu (.bool false) (PO.extract rfl rfl) rfl ?_
 refine Pu .nilIface (PO.extract rfl rfl) rfl ?_
 refine Nt ?_
 refine WC.condF (b := false) rfl rfl ?_
 refine Sr ?_
 refine Pu (.tuple #[.nilIface, (.bool false)]) (PO.asserts (show ev _ _ = .nilIface from rfl) (run_assert_nil zo113 Tryd.underlying113)) rfl ?_
 refine Pu (.bool false) (PO.extract rfl rfl) rfl ?_
 refine Pu .nilIface (PO.extract rfl rfl) rfl ?_
 refine Nt ?_
 refine WC.condF (b := false) rfl rfl ?_
 refine Sr ?_
 refine Pa (GV GErr.nil) rfl rfl ?_
 refine Ns ?_
 refine Pa (.bool false) rfl rfl ?_
 refine Nt ?_
 refine WC.ret ?_
 refine WQ.blockR ?_
 refine WQ.blockR ?_
 refine WQ.leaveR false (Option.some.inj h).symm (fun heq21 => ?_)
 subst heq21
 have h := hK21
 refine WQ.blockR ?_
 exact WQ.returnsF h [] rfl (results1 rfl rfl) hle21 ⟨rfl, rfl⟩
 refine Pu (.bool (decide (n24 = a1))) (PO.ifaceInt Tryd.underlying28 Tryd.underlying35 cm35 (show ev _ _ = (.iface 35 (.int .i64 n24)) from rfl) (show ev _ _ = (.iface 35 (.int .i64 a1)) from rfl)) rfl ?_
 refine Pu (.bool (decide (n24 = a1))) (PO.pickT rfl rfl rfl) rfl ?_
 refine Nt ?_
 refine WC.cond (b := decide (n24 = a1)) rfl (fun hb29 => ?_) (fun hb29 => ?_)
 have h := ite_t hb29 h
 refine Sr ?_
 refine Pa (.bool true) rfl rfl ?_
 refine Nt ?_
 refine WC.ret ?_
 refine WQ.thenR ?_
 refine WQ.blockR ?_
 refine WQ.leaveR true (Option.some.inj h).symm (fun heq21 => ?_)
 subst heq21
 have h := hK21
 refine WQ.blockR ?_
 exact WQ.returnsF h [] rfl (results1 rfl rfl) hle21 ⟨rfl, rfl⟩
 have h := ite_f hb29 h
 refine WC.skip ?_
 refine WQ.thenC ?_
 refine WC.seq ?_
 refine Sr ?_
 refine Pm (GV (GErr.code n24)) hs21_0 rfl ?_
 refine Pu (.tuple #[.nilIface, (.bool false)]) (PO.asserts (show ev _ _ = (.iface 35 (.int .i64 n24)) from rfl) (la35_117 _ _)) rfl ?_
 refine Pm (.tuple #[.nilIface, (.bool false)]) rfl rfl ?_
 refine Pu .nilIface (PO.extract rfl rfl) rfl ?_
 refine Pu (.bool false) (PO.extract rfl rfl) rfl ?_
 refine Pa .nilIface rfl rfl ?_
 refine Pa (.bool false) rfl rfl ?_
 refine Ns ?_
 refine Pm (.bool false) rfl rfl ?_
 refine Pm (.bool false) rfl rfl ?_
 iterate 3 refine Of 26 rfl rfl rfl rfl ?_
 refine Pu (.bool false) (PO.pickF rfl rfl rfl) rfl ?_
 refine Nt ?_
 refine WC.condF (b := false) rfl rfl ?_
 refine WC.skip ?_
 refine WQ.thenC ?_
 refine Sr ?_
 refine Pm (GV (GErr.code n24)) hs21_0 rfl ?_
 refine Nt ?_
 refine WC.block ?_
 refine Sr ?_
 refine Pu (.tuple #[.nilIface, (.bool false)]) (PO.asserts (show ev _ _ = (.iface 35 (.int .i64 n24)) from rfl) (la35_111 _ _)) rfl ?_
 refine Pu (.bool false) (PO.extract rfl rfl) rfl ?_
 refine Pu .nilIface (PO.extract rfl rfl) rfl ?_
 refine Nt ?_
 refine WC.condF (b := false) rfl rfl ?_
 refine Sr ?_
 refine Pu (.tuple #[.nilIface, (.bool false)]) (PO.asserts (show ev _ _ = (.iface 35 (.int .i64 n24)) from rfl) (la35_113 _ _)) rfl ?_
 refine Pu (.bool false) (PO.extract rfl rfl) rfl ?_
 refine Pu .nilIface (PO.extract rfl rfl) rfl ?_
 refine Nt ?_
 refine WC.condF (b := false) rfl rfl ?_
 refine Sr ?_
 refine Pa (GV (GErr.code n24)) rfl rfl ?_
 refine Ns ?_
 refine Pa (.bool false) rfl rfl ?_
 refine Nt ?_
 refine WC.ret ?_
 refine WQ.blockR ?_
 refine WQ.blockR ?_
 refine WQ.leaveR false (Option.some.inj h).symm (fun heq21 => ?_)
 subst heq21
 have h := hK21
 refine WQ.blockR ?_
 exact WQ.returnsF h [] rfl (results1 rfl rfl) hle21 ⟨rfl, rfl⟩
 refine Pu (.bool false) (PO.ifaceNe Tryd.underlying28 (show ev _ _ = (.iface 65 (.agg #[.string o25, .int .i64 a26, GV e27])) from rfl) (show ev _ _ = (.iface 35 (.int .i64 a1)) from rfl) rfl) rfl ?_
 refine Pu (.bool false) (PO.pickT rfl rfl rfl) rfl ?_
 refine Nt ?_
 refine WC.condF (b := false) rfl rfl ?_
 refine WC.skip ?_
 refine WQ.thenC ?_
 refine WC.seq ?_
 refine Sr ?_
 refine Pm (GV (GErr.fault o25 a26 e27)) hs21_0 rfl ?_
 refine Pu (.tuple #[.nilIface, (.bool false)]) (PO.asserts (show ev _ _ = (.iface 65 (.agg #[.string o25, .int .i64 a26, GV e27])) from rfl) (la65_117 _ _)) rfl ?_
 refine Pm (.tuple #[.nilIface, (.bool false)]) rfl rfl ?_
 refine Pu .nilIface (PO.extract rfl rfl) rfl ?_
 refine Pu (.bool false) (PO.extract rfl rfl) rfl ?_
 refine Pa .nilIface rfl rfl ?_
 refine Pa (.bool false) rfl rfl ?_
 refine Ns ?_
 refine Pm (.bool false) rfl rfl ?_
 refine Pm (.bool false) rfl rfl ?_
 iterate 3 refine Of 26 rfl rfl rfl rfl ?_
 refine Pu (.bool false) (PO.pickF rfl rfl rfl) rfl ?_
 refine Nt ?_
 refine WC.condF (b := false) rfl rfl ?_
 refine WC.skip ?_
 refine WQ.thenC ?_
 refine Sr ?_
 refine Pm (GV (GErr.fault o25 a26 e27)) hs21_0 rfl ?_
 refine Nt ?_
 refine WC.block ?_
 refine Sr ?_
 refine Pu (.tuple #[(GV (GErr.fault o25 a26 e27)), (.bool true)]) (PO.asserts (show ev _ _ = (.iface 65 (.agg #[.string o25, .int .i64 a26, GV e27])) from rfl) (ha65_111 _ _)) rfl ?_
 refine Pu (.bool true) (PO.extract rfl rfl) rfl ?_
 refine Pu (GV (GErr.fault o25 a26 e27)) (PO.extract rfl rfl) rfl ?_
 refine Nt ?_
 refine WC.condT (b := true) rfl rfl ?_
 refine Sr ?_
 refine Pa (GV (GErr.fault o25 a26 e27)) rfl rfl ?_
 refine Ns ?_
 refine Pm (GV (GErr.fault o25 a26 e27)) rfl rfl ?_
 obtain ⟨r30, hr31, h⟩ := bnd h
 refine WL.eff (EO.invT (show ev _ _ = (.iface 65 (.agg #[.string o25, .int .i64 a26, GV e27])) from rfl) (me65_Unwrap _) co72 inv0 (f_api_Fault_Unwrap_ok (⟨o25, a26, e27⟩ : T_api_Fault) _ r30 hr31)) rfl ?_
 rintro _ M32 _ hle33 ⟨_, ⟨rfl, rfl⟩, rfl⟩
 refine WL.a0 ?_
 refine Pa (GV r30) rfl rfl ?_
 refine Ns ?_
 refine Pm (GV r30) rfl rfl ?_
 refine Pu (.bool r30.isNil) (PO.errNil Tryd.underlying28 rfl) rfl ?_
 refine Nt ?_
 refine WC.cond (b := r30.isNil) rfl (fun hb35 => ?_) (fun hb35 => ?_)
 have h := ite_t hb35 h
 refine Sr ?_
 refine Pa (.bool false) rfl rfl ?_
 refine Nt ?_
 refine WC.ret ?_
 refine WQ.blockR ?_
 refine WQ.blockR ?_
 refine WQ.leaveR false (Option.some.inj h).symm (fun heq21 => ?_)
 subst heq21
 have h := hK21
 refine WQ.blockR ?_
 exact WQ.returnsF h [] rfl (results1 rfl rfl) (hle21.trans hle33) ⟨rfl, rfl⟩
 have h := ite_f hb35 h
 refine WC.skip ?_
 refine WQ.blockN ?_
 refine WQ.blockN ?_
 refine WQ.again r30 (Option.some.inj h).symm ?_
 exact ⟨(hle21.trans hle33), rfl, rfl, hs21_1, hs21_2⟩
 refine Pu (.bool false) (PO.ifaceNe Tryd.underlying28 (show ev _ _ = (.iface 83 (.pointer (some b28))) from rfl) (show ev _ _ = (.iface 35 (.int .i64 a1)) from rfl) rfl) rfl ?_
 refine Pu (.bool false) (PO.pickT rfl rfl rfl) rfl ?_
 refine Nt ?_
 refine WC.condF (b := false) rfl rfl ?_
 refine WC.skip ?_
 refine WQ.thenC ?_
 refine WC.seq ?_
 refine Sr ?_
 refine Pm (GV (GErr.other b28)) hs21_0 rfl ?_
 refine Pu (.tuple #[.nilIface, (.bool false)]) (PO.asserts (show ev _ _ = (.iface 83 (.pointer (some b28))) from rfl) (la83_117 _ _)) rfl ?_
 refine Pm (.tuple #[.nilIface, (.bool false)]) rfl rfl ?_
 refine Pu .nilIface (PO.extract rfl rfl) rfl ?_
 refine Pu (.bool false) (PO.extract rfl rfl) rfl ?_
 refine Pa .nilIface rfl rfl ?_
 refine Pa (.bool false) rfl rfl ?_
 refine Ns ?_
 refine Pm (.bool false) rfl rfl ?_
 refine Pm (.bool false) rfl rfl ?_
 iterate 3 refine Of 26 rfl rfl rfl rfl ?_
 refine Pu (.bool false) (PO.pickF rfl rfl rfl) rfl ?_
 refine Nt ?_
 refine WC.condF (b := false) rfl rfl ?_
 refine WC.skip ?_
 refine WQ.thenC ?_
 refine Sr ?_
 refine Pm (GV (GErr.other b28)) hs21_0 rfl ?_
 refine Nt ?_
 refine WC.block ?_
 refine Sr ?_
 refine Pu (.tuple #[.nilIface, (.bool false)]) (PO.asserts (show ev _ _ = (.iface 83 (.pointer (some b28))) from rfl) (la83_111 _ _)) rfl ?_
 refine Pu (.bool false) (PO.extract rfl rfl) rfl ?_
 refine Pu .nilIface (PO.extract rfl rfl) rfl ?_
 refine Nt ?_
 refine WC.condF (b := false) rfl rfl ?_
 refine Sr ?_
 refine Pu (.tuple #[.nilIface, (.bool false)]) (PO.asserts (show ev _ _ = (.iface 83 (.pointer (some b28))) from rfl) (la83_113 _ _)) rfl ?_
 refine Pu (.bool false) (PO.extract rfl rfl) rfl ?_
 refine Pu .nilIface (PO.extract rfl rfl) rfl ?_
 refine Nt ?_
 refine WC.condF (b := false) rfl rfl ?_
 refine Sr ?_
 refine Pa (GV (GErr.other b28)) rfl rfl ?_
 refine Ns ?_
 refine Pa (.bool false) rfl rfl ?_
 refine Nt ?_
 refine WC.ret ?_
 refine WQ.blockR ?_
 refine WQ.blockR ?_
 refine WQ.leaveR false (Option.some.inj h).symm (fun heq21 => ?_)
 subst heq21
 have h := hK21
 refine WQ.blockR ?_
 exact WQ.returnsF h [] rfl (results1 rfl rfl) hle21 ⟨rfl, rfl⟩


end Go.Proofs.YtmifmgpfjamdkaaDoor.G
