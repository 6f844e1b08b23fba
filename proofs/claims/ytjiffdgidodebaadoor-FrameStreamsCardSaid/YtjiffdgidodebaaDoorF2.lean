/- Go functions: what they come to, and that they do. Printed by a program of the session (gen). -/
import Derived.Test.YtjiffdgidodebaaDoorFF
import Derived.Test.YtjiffdgidodebaaDoorF1
import Derived.Test.YtjiffdgidodebaaDoorKShar
set_option linter.unusedVariables false
set_option linter.unusedSimpArgs false
set_option maxHeartbeats 8000000
set_option maxRecDepth 100000
namespace Go.Proofs.YtjiffdgidodebaaDoor.G
open Go Go.KK

noncomputable def f_errors_as_code_l0 (a1 : Int) (s_ : GErr) : Option (GErr ⊕ (Bool × Int)) :=
  match s_ with
  | x23 =>
    (match x23 with | .nil => none | .code n26 => (some (Sum.inr (true, n26))) | .fault o27 a28 e29 => ((f_api_Fault_Unwrap (⟨o27, a28, e29⟩ : T_api_Fault)).bind fun (r32 : GErr) => (if r32.isNil = true then (some (Sum.inr (false, a1))) else (some (Sum.inl r32)))) | .other b30 => (some (Sum.inr (false, a1))))
noncomputable def f_errors_as_code (a0 : GErr) (a1 : Int) : Option (Bool × Int) :=
  ((iter (f_errors_as_code_l0 a1) a0).bind (fun (x24, x25) => (some (x24, x25))))
def f_errors_as_code_post (a0 : GErr) (a1 : Int) (g1 g2 : Nat) : (Bool × Int) → Value → IM → HL → Prop :=
  fun (p_ : (Bool × Int)) (v : Value) (M' : IM) (H' : HL) => match p_ with | (r0, r1) => (.bool r0) = v ∧ H' = [[(g1, .cells #[(.int .i64 r1)] 47 (0, 0))], [(g2, .cells #[(.pointer (some ⟨g1, 0, none⟩))] 92 (0, 0))]]
theorem f_errors_as_code_ok (a0 : GErr) (a1 : Int) (M : IM) (g1 g2 : Nat) (res : (Bool × Int)) (h : f_errors_as_code a0 a1 = some res) :
    Tri Tryd.prog 68 #[(GV a0), (.iface 92 (pt g1 0)), (.agg #[(pt 1 92), (pt g2 0), (.int .u64 150)]), (.iface 163 (.agg #[.pointer (some ⟨1, 47, none⟩)]))] M [[(g1, .cells #[(.int .i64 a1)] 47 (0, 0))], [(g2, .cells #[(pt g1 0)] 92 (0, 0))]] (f_errors_as_code_post a0 a1 g1 g2 res) := by
 unfold f_errors_as_code at h
 refine Tri.enter (fn := Tryd.f68) Tryd.func68 rfl (Nat.le_of_ble_eq_true rfl) ?_
 intro F ρ hρ
 refine Sr ?_
 refine WL.eff (EO.box (cs := #[(pt 1 92), (pt g2 0), (.int .u64 150)]) (congrArg Value.cells (asE (.agg #[(pt 1 92), (pt g2 0), (.int .u64 150)]) (hρ 2)))) rfl ?_
 rintro _ _ _ - ⟨rfl, g21, rfl, rfl⟩
 refine Pa (.bool false) rfl rfl ?_
 refine Nt ?_
 refine WC.block ?_
 obtain ⟨e22, he22, hK22⟩ := bnd h
 clear h
 refine WC.loop he22 (fun (x23 : GErr) ρ' M' H' => M.le M' ∧ [(g21, .cells #[(pt 1 92), (pt g2 0), (.int .u64 150)] 124 (0, 0))] :: [(g1, .cells #[(.int .i64 a1)] 47 (0, 0))] :: [(g2, .cells #[(pt g1 0)] 92 (0, 0))] :: F = H' ∧ ρ' 0 = (GV x23) ∧ ρ' 1 = (.iface 92 (pt g1 0)) ∧ ρ' 3 = (.iface 163 (.agg #[.pointer (some ⟨1, 47, none⟩)])) ∧ ρ' 6 = (pt g21 0)) ?_ ?_
 exact ⟨(IM.le.refl _), rfl, (hρ 0), (hρ 1), (hρ 3), rfl⟩
 rintro x23 o22 ρ22 M22 H22 h ⟨hle22, rfl, hs22_0, hs22_1, hs22_3, hs22_6⟩
 unfold f_errors_as_code_l0 at h
 refine WC.block ?_
 refine WC.seq ?_
 refine Sr ?_
 refine Pm (GV x23) hs22_0 rfl ?_
 rcases x23 with _ | n26 | ⟨o27, a28, e29⟩ | b30
 refine WL.eff (EO.extP xt89 (args1 (show ev _ _ = .nilIface from rfl)) tyNil) rfl ?_
 rintro _ _ _ - ⟨rfl, rfl, rfl⟩
 refine Pm (.iface 163 (.agg #[.pointer (some ⟨1, 47, none⟩)])) hs22_3 rfl ?_
 exact nones h
 refine WL.eff (EO.extP xt89 (args1 (show ev _ _ = (.iface 47 (.int .i64 n26)) from rfl)) (ty47 _)) rfl ?_
 rintro _ _ _ - ⟨rfl, rfl, rfl⟩
 refine Pm (.iface 163 (.agg #[.pointer (some ⟨1, 47, none⟩)])) hs22_3 rfl ?_
 refine WL.eff (EO.invE (show ev _ _ = (.iface 163 (.agg #[.pointer (some ⟨1, 47, none⟩)])) from rfl) (mm_AssignableTo (pt 1 47)) xt144 (inv1 rfl) mr_AssignableTo_47_47) rfl ?_
 rintro _ _ _ - ⟨rfl, rfl, rfl⟩
 refine Nt ?_
 refine WC.condT (b := true) rfl rfl ?_
 refine Sr ?_
 refine Pu (.agg #[(pt 1 92), (pt g2 0), (.int .u64 150)]) (PO.loadBA (cs := [(pt 1 92), (pt g2 0), (.int .u64 150)]) 0 ag124 sz124 hs22_6 rfl rfl) rfl ?_
 refine WL.eff (EO.rvElem (r := fun p => .agg #[(pt 1 47), .pointer (some p), .int .u64 386]) 2 xt95 pp92_150 rfl pl92 el92 mk47 (args1 (show ev _ _ = (.agg #[(pt 1 92), (pt g2 0), (.int .u64 150)]) from rfl)) rfl) rfl ?_
 rintro _ _ _ - ⟨rfl, rfl, rfl⟩
 refine Pm (GV (GErr.code n26)) hs22_0 rfl ?_
 refine WL.eff (EO.valueOf xt65 (args1 (show ev _ _ = (.iface 47 (.int .i64 n26)) from rfl)) (vo47 n26)) rfl ?_
 rintro _ _ _ - ⟨rfl, g31, rfl, rfl⟩
 refine WL.f2 ?_
 refine WL.eff (EO.rvSet (arr := [(.int .i64 a1)]) (vl := [(.int .i64 n26)]) (v := (.int .i64 n26)) xt96 pp47_386 pp47_130 rfl da47 (args2 (show ev _ _ = (.agg #[(pt 1 47), (pt g1 0), (.int .u64 386)]) from rfl) (show ev _ _ = (.agg #[(pt 1 47), (pt g31 0), (.int .u64 130)]) from rfl)) (fun _ hs => run_loadPlain pl47 (hs.cellC 1 rfl (chunkCell_lit.trans rfl))) rfl sz47 rfl (onesOf (Ones.cons rfl Ones.nil))) rfl ?_
 rintro _ _ _ - ⟨rfl, rfl, rfl⟩
 refine Ns ?_
 refine Pa (.bool true) rfl rfl ?_
 refine Nt ?_
 refine WC.ret ?_
 refine WQ.thenR ?_
 refine WQ.blockR ?_
 refine WQ.leaveR (true, n26) (Option.some.inj h).symm (fun heq22 => ?_)
 subst heq22
 have h := hK22
 refine WQ.blockR ?_
 refine WQ.f1 ?_
 refine WQ.drop ?_
 refine WQ.f1 ?_
 refine WQ.drop ?_
 exact WQ.returnsF h [[(g1, .cells #[(.int .i64 n26)] 47 (0, 0))], [(g2, .cells #[(pt g1 0)] 92 (0, 0))]] rfl (results1 rfl rfl) hle22 ⟨rfl, rfl⟩
 refine WL.eff (EO.extP xt89 (args1 (show ev _ _ = (.iface 89 (.agg #[.string o27, .int .i64 a28, GV e29])) from rfl)) (ty89 _)) rfl ?_
 rintro _ _ _ - ⟨rfl, rfl, rfl⟩
 refine Pm (.iface 163 (.agg #[.pointer (some ⟨1, 47, none⟩)])) hs22_3 rfl ?_
 refine WL.eff (EO.invE (show ev _ _ = (.iface 163 (.agg #[.pointer (some ⟨1, 89, none⟩)])) from rfl) (mm_AssignableTo (pt 1 89)) xt144 (inv1 rfl) mr_AssignableTo_89_47) rfl ?_
 rintro _ _ _ - ⟨rfl, rfl, rfl⟩
 refine Nt ?_
 refine WC.condF (b := false) rfl rfl ?_
 refine WC.skip ?_
 refine WQ.thenC ?_
 refine WC.seq ?_
 refine Sr ?_
 refine Pm (GV (GErr.fault o27 a28 e29)) hs22_0 rfl ?_
 refine Pu (.tuple #[.nilIface, (.bool false)]) (PO.asserts (show ev _ _ = (.iface 89 (.agg #[.string o27, .int .i64 a28, GV e29])) from rfl) (la89_167 _ _)) rfl ?_
 refine Pm (.tuple #[.nilIface, (.bool false)]) rfl rfl ?_
 refine Pu .nilIface (PO.extract rfl rfl) rfl ?_
 refine Pu (.bool false) (PO.extract rfl rfl) rfl ?_
 refine Pa .nilIface rfl rfl ?_
 refine Pa (.bool false) rfl rfl ?_
 refine Ns ?_
 refine Pm (.bool false) rfl rfl ?_
 refine Pm (.bool false) rfl rfl ?_
 iterate 3 refine Of 31 rfl rfl rfl rfl ?_
 refine Pu (.bool false) (PO.pickF rfl rfl rfl) rfl ?_
 refine Nt ?_
 refine WC.condF (b := false) rfl rfl ?_
 refine WC.skip ?_
 refine WQ.thenC ?_
 refine Sr ?_
 refine Pm (GV (GErr.fault o27 a28 e29)) hs22_0 rfl ?_
 refine Nt ?_
 refine WC.block ?_
 refine Sr ?_
 refine Pu (.tuple #[(GV (GErr.fault o27 a28 e29)), (.bool true)]) (PO.asserts (show ev _ _ = (.iface 89 (.agg #[.string o27, .int .i64 a28, GV e29])) from rfl) (ha89_170 _ _)) rfl ?_
 refine Pu (.bool true) (PO.extract rfl rfl) rfl ?_
 refine Pu (GV (GErr.fault o27 a28 e29)) (PO.extract rfl rfl) rfl ?_
 refine Nt ?_
 refine WC.condT (b := true) rfl rfl ?_
 refine Sr ?_
 refine Pa (GV (GErr.fault o27 a28 e29)) rfl rfl ?_
 refine Ns ?_
 refine Pm (GV (GErr.fault o27 a28 e29)) rfl rfl ?_
 obtain ⟨r32, hr33, h⟩ := bnd h
 refine WL.eff (EO.invT (show ev _ _ = (.iface 89 (.agg #[.string o27, .int .i64 a28, GV e29])) from rfl) (me89_Unwrap _) co139 inv0 (f_api_Fault_Unwrap_ok (⟨o27, a28, e29⟩ : T_api_Fault) _ r32 hr33)) rfl ?_
 rintro _ M34 _ hle35 ⟨_, ⟨rfl, rfl⟩, rfl⟩
 refine WL.a0 ?_
 refine Pa (GV r32) rfl rfl ?_
 refine Ns ?_
 refine Pm (GV r32) rfl rfl ?_
 refine Pu (.bool r32.isNil) (PO.errNil Tryd.underlying28 rfl) rfl ?_
 refine Nt ?_
 refine WC.cond (b := r32.isNil) rfl (fun hb37 => ?_) (fun hb37 => ?_)
 have h := ite_t hb37 h
 refine Sr ?_
 refine Pa (.bool false) rfl rfl ?_
 refine Nt ?_
 refine WC.ret ?_
 refine WQ.blockR ?_
 refine WQ.blockR ?_
 refine WQ.leaveR (false, a1) (Option.some.inj h).symm (fun heq22 => ?_)
 subst heq22
 have h := hK22
 refine WQ.blockR ?_
 refine WQ.drop ?_
 exact WQ.returnsF h [[(g1, .cells #[(.int .i64 a1)] 47 (0, 0))], [(g2, .cells #[(pt g1 0)] 92 (0, 0))]] rfl (results1 rfl rfl) (hle22.trans hle35) ⟨rfl, rfl⟩
 have h := ite_f hb37 h
 refine WC.skip ?_
 refine WQ.blockN ?_
 refine WQ.blockN ?_
 refine WQ.again r32 (Option.some.inj h).symm ?_
 exact ⟨(hle22.trans hle35), rfl, rfl, hs22_1, hs22_3, hs22_6⟩
 refine WL.eff (EO.extP xt89 (args1 (show ev _ _ = (.iface 0 (.pointer (some b30))) from rfl)) (ty0 _)) rfl ?_
 rintro _ _ _ - ⟨rfl, rfl, rfl⟩
 refine Pm (.iface 163 (.agg #[.pointer (some ⟨1, 47, none⟩)])) hs22_3 rfl ?_
 refine WL.eff (EO.invE (show ev _ _ = (.iface 163 (.agg #[.pointer (some ⟨1, 0, none⟩)])) from rfl) (mm_AssignableTo (pt 1 0)) xt144 (inv1 rfl) mr_AssignableTo_0_47) rfl ?_
 rintro _ _ _ - ⟨rfl, rfl, rfl⟩
 refine Nt ?_
 refine WC.condF (b := false) rfl rfl ?_
 refine WC.skip ?_
 refine WQ.thenC ?_
 refine WC.seq ?_
 refine Sr ?_
 refine Pm (GV (GErr.other b30)) hs22_0 rfl ?_
 refine Pu (.tuple #[.nilIface, (.bool false)]) (PO.asserts (show ev _ _ = (.iface 0 (.pointer (some b30))) from rfl) (la0_167 _ _)) rfl ?_
 refine Pm (.tuple #[.nilIface, (.bool false)]) rfl rfl ?_
 refine Pu .nilIface (PO.extract rfl rfl) rfl ?_
 refine Pu (.bool false) (PO.extract rfl rfl) rfl ?_
 refine Pa .nilIface rfl rfl ?_
 refine Pa (.bool false) rfl rfl ?_
 refine Ns ?_
 refine Pm (.bool false) rfl rfl ?_
 refine Pm (.bool false) rfl rfl ?_
 iterate 3 refine Of 31 rfl rfl rfl rfl ?_
 refine Pu (.bool false) (PO.pickF rfl rfl rfl) rfl ?_
 refine Nt ?_
 refine WC.condF (b := false) rfl rfl ?_
 refine WC.skip ?_
 refine WQ.thenC ?_
 refine Sr ?_
 refine Pm (GV (GErr.other b30)) hs22_0 rfl ?_
 refine Nt ?_
 refine WC.block ?_
 refine Sr ?_
 refine Pu (.tuple #[.nilIface, (.bool false)]) (PO.asserts (show ev _ _ = (.iface 0 (.pointer (some b30))) from rfl) (la0_170 _ _)) rfl ?_
 refine Pu (.bool false) (PO.extract rfl rfl) rfl ?_
 refine Pu .nilIface (PO.extract rfl rfl) rfl ?_
 refine Nt ?_
 refine WC.condF (b := false) rfl rfl ?_
 refine Sr ?_
 refine Pu (.tuple #[.nilIface, (.bool false)]) (PO.asserts (show ev _ _ = (.iface 0 (.pointer (some b30))) from rfl) (la0_171 _ _)) rfl ?_
 refine Pu (.bool false) (PO.extract rfl rfl) rfl ?_
 refine Pu .nilIface (PO.extract rfl rfl) rfl ?_
 refine Nt ?_
 refine WC.condF (b := false) rfl rfl ?_
 refine Sr ?_
 refine Pa (GV (GErr.other b30)) rfl rfl ?_
 refine Ns ?_
 refine Pa (.bool false) rfl rfl ?_
 refine Nt ?_
 refine WC.ret ?_
 refine WQ.blockR ?_
 refine WQ.blockR ?_
 refine WQ.leaveR (false, a1) (Option.some.inj h).symm (fun heq22 => ?_)
 subst heq22
 have h := hK22
 refine WQ.blockR ?_
 refine WQ.drop ?_
 exact WQ.returnsF h [[(g1, .cells #[(.int .i64 a1)] 47 (0, 0))], [(g2, .cells #[(pt g1 0)] 92 (0, 0))]] rfl (results1 rfl rfl) hle22 ⟨rfl, rfl⟩

noncomputable def f_errors_As_code (a0 : GErr) (a1 : Int) : Option (Bool × Int) :=
  (if a0.isNil = true then (some (false, a1)) else ((f_errors_as_code a0 a1).bind fun (r24, r25) => (some (r24, r25))))
def f_errors_As_code_post (a0 : GErr) (a1 : Int) (g1 : Nat) : (Bool × Int) → Value → IM → HL → Prop :=
  fun (p_ : (Bool × Int)) (v : Value) (M' : IM) (H' : HL) => match p_ with | (r0, r1) => (.bool r0) = v ∧ H' = [[(g1, .cells #[(.int .i64 r1)] 47 (0, 0))]]
theorem f_errors_As_code_ok (a0 : GErr) (a1 : Int) (M : IM) (g1 : Nat) (hE : Env M) (res : (Bool × Int)) (h : f_errors_As_code a0 a1 = some res) :
    Tri Tryd.prog 44 #[(GV a0), (.iface 92 (pt g1 0))] M [[(g1, .cells #[(.int .i64 a1)] 47 (0, 0))]] (f_errors_As_code_post a0 a1 g1 res) := by
 unfold f_errors_As_code at h
 refine Tri.enter (fn := Tryd.f44) Tryd.func44 rfl (Nat.le_of_ble_eq_true rfl) ?_
 intro F ρ hρ
 refine Sr ?_
 refine Pa (.bool false) rfl rfl ?_
 refine Nt ?_
 refine WC.seq ?_
 refine Sr ?_
 refine Pm (GV a0) (hρ 0) rfl ?_
 refine Pu (.bool a0.isNil) (PO.errNil Tryd.underlying28 rfl) rfl ?_
 refine Nt ?_
 refine WC.cond (b := a0.isNil) rfl (fun hb21 => ?_) (fun hb21 => ?_)
 have h := ite_t hb21 h
 refine Sr ?_
 refine Pa (.bool false) rfl rfl ?_
 refine Nt ?_
 refine WC.ret ?_
 refine WQ.thenR ?_
 exact WQ.returnsF h [[(g1, .cells #[(.int .i64 a1)] 47 (0, 0))]] rfl (results1 rfl rfl) (IM.le.refl _) ⟨rfl, rfl⟩
 have h := ite_f hb21 h
 refine WC.skip ?_
 refine WQ.thenC ?_
 refine WC.seq ?_
 refine Sr ?_
 refine Pm (.iface 92 (pt g1 0)) (hρ 1) rfl ?_
 refine Pu (.bool false) (PO.ifcNil Tryd.underlying20 rfl) rfl ?_
 refine Nt ?_
 refine WC.condF (b := false) rfl rfl ?_
 refine WC.skip ?_
 refine WQ.thenC ?_
 refine Sr ?_
 refine Pm (.iface 92 (pt g1 0)) (hρ 1) rfl ?_
 refine WL.eff (EO.valueOf xt65 (args1 (show ev _ _ = (.iface 92 (pt g1 0)) from rfl)) (vo92 ⟨g1, 0, none⟩)) rfl ?_
 rintro _ _ _ - ⟨rfl, g22, rfl, rfl⟩
 refine WL.eff (EO.alloc ze124 rfl) rfl ?_
 rintro _ _ _ - ⟨rfl, g23, rfl, rfl⟩
 refine WL.eff (EO.storeL (v := (.agg #[(pt 1 92), (pt g22 0), (.int .u64 150)])) (vl := [(pt 1 92), (pt g22 0), (.int .u64 150)]) (arr' := [(pt 1 92), (pt g22 0), (.int .u64 150)]) rfl sz124 rfl rfl (onesOf (Ones.cons rfl (Ones.cons rfl (Ones.cons rfl Ones.nil)))) rfl rfl rfl) rfl ?_
 rintro _ _ _ - ⟨rfl, rfl⟩
 refine Ns ?_
 refine Pu (.agg #[(pt 1 92), (pt g22 0), (.int .u64 150)]) (PO.loadBA (cs := [(pt 1 92), (pt g22 0), (.int .u64 150)]) 0 ag124 sz124 rfl rfl rfl) rfl ?_
 refine WL.eff (EO.extP xt66 (args1 (show ev _ _ = (.agg #[(pt 1 92), (pt g22 0), (.int .u64 150)]) from rfl)) (vt92_150 _)) rfl ?_
 rintro _ _ _ - ⟨rfl, rfl, rfl⟩
 refine Pa (.iface 163 (.agg #[.pointer (some ⟨1, 92, none⟩)])) rfl rfl ?_
 refine Nt ?_
 refine WC.seq ?_
 refine Sr ?_
 refine Pm (.iface 163 (.agg #[.pointer (some ⟨1, 92, none⟩)])) rfl rfl ?_
 refine WL.eff (EO.invE (show ev _ _ = (.iface 163 (.agg #[.pointer (some ⟨1, 92, none⟩)])) from rfl) (mm_Kind (pt 1 92)) xt134 inv0 mr_Kind_92) rfl ?_
 rintro _ _ _ - ⟨rfl, rfl, rfl⟩
 refine Pu (.bool false) (PO.neqR rfl rfl (by decide)) rfl ?_
 refine Pm (.bool false) rfl rfl ?_
 refine On 20 rfl rfl rfl ?_
 refine Pu (.agg #[(pt 1 92), (pt g22 0), (.int .u64 150)]) (PO.loadBA (cs := [(pt 1 92), (pt g22 0), (.int .u64 150)]) 0 ag124 sz124 rfl rfl rfl) rfl ?_
 refine On 20 rfl rfl rfl ?_
 refine WL.eff (EO.isNil 1 xt67 pp92_150 rfl pl92 (args1 (show ev _ _ = (.agg #[(pt 1 92), (pt g22 0), (.int .u64 150)]) from rfl)) rfl) rfl ?_
 rintro _ _ _ - ⟨rfl, rfl, rfl⟩
 refine Pu (.bool false) (PO.pickF rfl rfl rfl) rfl ?_
 refine Nt ?_
 refine WC.condF (b := false) rfl rfl ?_
 refine WC.skip ?_
 refine WQ.thenC ?_
 refine Sr ?_
 refine Pm (.iface 163 (.agg #[.pointer (some ⟨1, 92, none⟩)])) rfl rfl ?_
 refine WL.eff (EO.invE (show ev _ _ = (.iface 163 (.agg #[.pointer (some ⟨1, 92, none⟩)])) from rfl) (mm_Elem (pt 1 92)) xt146 inv0 mr_Elem_92) rfl ?_
 rintro _ _ _ - ⟨rfl, rfl, rfl⟩
 refine Pa (.iface 163 (.agg #[.pointer (some ⟨1, 47, none⟩)])) rfl rfl ?_
 refine Nt ?_
 refine WC.seq ?_
 refine Sr ?_
 refine Pm (.iface 163 (.agg #[.pointer (some ⟨1, 47, none⟩)])) rfl rfl ?_
 refine WL.eff (EO.invE (show ev _ _ = (.iface 163 (.agg #[.pointer (some ⟨1, 47, none⟩)])) from rfl) (mm_Kind (pt 1 47)) xt134 inv0 mr_Kind_47) rfl ?_
 rintro _ _ _ - ⟨rfl, rfl, rfl⟩
 refine Pu (.bool true) (PO.neqR rfl rfl (by decide)) rfl ?_
 refine Pm (.bool true) rfl rfl ?_
 refine On 30 rfl rfl rfl ?_
 refine Pm (.iface 163 (.agg #[.pointer (some ⟨1, 47, none⟩)])) rfl rfl ?_
 refine On 30 rfl rfl rfl ?_
 refine Pu (.iface 163 (.agg #[.pointer (some ⟨1, 28, none⟩)])) (PO.loadG pl127 hE) rfl ?_
 refine On 30 rfl rfl rfl ?_
 refine WL.eff (EO.invE (show ev _ _ = (.iface 163 (.agg #[.pointer (some ⟨1, 47, none⟩)])) from rfl) (mm_Implements (pt 1 47)) xt147 (inv1 rfl) mr_Implements_47_28) rfl ?_
 rintro _ _ _ - ⟨rfl, rfl, rfl⟩
 refine On 30 rfl rfl rfl ?_
 refine Pu (.bool (!true)) (PO.not rfl) rfl ?_
 refine Pu (.bool (!true)) (PO.pickT rfl rfl rfl) rfl ?_
 refine Nt ?_
 refine WC.condF (b := !true) rfl rfl ?_
 refine WC.skip ?_
 refine WQ.thenC ?_
 refine Sr ?_
 refine Pm (GV a0) (hρ 0) rfl ?_
 refine Pm (.iface 92 (pt g1 0)) (hρ 1) rfl ?_
 refine Pu (.agg #[(pt 1 92), (pt g22 0), (.int .u64 150)]) (PO.loadBA (cs := [(pt 1 92), (pt g22 0), (.int .u64 150)]) 0 ag124 sz124 rfl rfl rfl) rfl ?_
 refine Pm (.iface 163 (.agg #[.pointer (some ⟨1, 47, none⟩)])) rfl rfl ?_
 obtain ⟨⟨r24, r25⟩, hr26, h⟩ := bnd h
 refine WL.f1 ?_
 refine WL.f2 ?_
 refine WL.eff (EO.call2 co68 (f_errors_as_code_ok a0 a1 _ _ _ (r24, r25) hr26) (args4 rfl rfl rfl rfl)) rfl ?_
 rintro _ M27 _ hle28 ⟨_, ⟨rfl, rfl⟩, rfl⟩
 have hE := hE.mono hle28
 refine WL.a2 ?_
 refine Pa (.bool r24) rfl rfl ?_
 refine Nt ?_
 refine WC.ret ?_
 refine WQ.f1 ?_
 refine WQ.drop ?_
 refine WQ.f1 ?_
 refine WQ.drop ?_
 exact WQ.returnsF h [[(g1, .cells #[(.int .i64 r25)] 47 (0, 0))]] rfl (results1 rfl rfl) hle28 ⟨rfl, rfl⟩

noncomputable def f_fault_Of (a0 : GErr) : Option Int :=
  (if a0.isNil = true then (some (0 : Int)) else ((f_errors_As_code a0 (0 : Int)).bind fun (r23, r24) => (if r23 = true then (some r24) else (some (21 : Int)))))
def f_fault_Of_post (a0 : GErr) : Int → Value → IM → HL → Prop :=
  fun (r0 : Int) (v : Value) (M' : IM) (H' : HL) => (.int .i64 r0) = v ∧ H' = []
theorem f_fault_Of_ok (a0 : GErr) (M : IM) (hE : Env M) (res : Int) (h : f_fault_Of a0 = some res) :
    Tri Tryd.prog 22 #[(GV a0)] M [] (f_fault_Of_post a0 res) := by
 unfold f_fault_Of at h
 refine Tri.enter (fn := Tryd.f22) Tryd.func22 rfl (Nat.le_of_ble_eq_true rfl) ?_
 intro F ρ hρ
 refine Sr ?_
 refine Pa (.int .i64 0) rfl rfl ?_
 refine Nt ?_
 refine WC.seq ?_
 refine Sr ?_
 refine Pm (GV a0) (hρ 0) rfl ?_
 refine Pu (.bool a0.isNil) (PO.errNil Tryd.underlying28 rfl) rfl ?_
 refine Nt ?_
 refine WC.cond (b := a0.isNil) rfl (fun hb21 => ?_) (fun hb21 => ?_)
 have h := ite_t hb21 h
 refine Sr ?_
 refine Pa (.int .i64 0) rfl rfl ?_
 refine Nt ?_
 refine WC.ret ?_
 refine WQ.thenR ?_
 exact WQ.returnsF h [] rfl (results1 rfl rfl) (IM.le.refl _) ⟨rfl, rfl⟩
 have h := ite_f hb21 h
 refine WC.skip ?_
 refine WQ.thenC ?_
 refine Sr ?_
 refine WL.eff (EO.alloc ze47 rfl) rfl ?_
 rintro _ _ _ - ⟨rfl, g22, rfl, rfl⟩
 refine Nt ?_
 refine WC.seq ?_
 refine Sr ?_
 refine Pm (GV a0) (hρ 0) rfl ?_
 refine Pu (.iface 92 (pt g22 0)) (PO.makeInterface cc92 rfl) rfl ?_
 obtain ⟨⟨r23, r24⟩, hr25, h⟩ := bnd h
 refine WL.eff (EO.call1 co44 (f_errors_As_code_ok a0 (0 : Int) _ _ hE (r23, r24) hr25) (args2 rfl rfl)) rfl ?_
 rintro _ M26 _ hle27 ⟨_, ⟨rfl, rfl⟩, rfl⟩
 have hE := hE.mono hle27
 refine WL.a1 ?_
 refine Nt ?_
 refine WC.cond (b := r23) rfl (fun hb29 => ?_) (fun hb29 => ?_)
 have h := ite_t hb29 h
 refine Sr ?_
 refine Pu (.int .i64 r24) (PO.loadB 0 pl47 rfl rfl rfl) rfl ?_
 refine Pa (.int .i64 r24) rfl rfl ?_
 refine Nt ?_
 refine WC.ret ?_
 refine WQ.thenR ?_
 refine WQ.drop ?_
 exact WQ.returnsF h [] rfl (results1 rfl rfl) hle27 ⟨rfl, rfl⟩
 have h := ite_f hb29 h
 refine WC.skip ?_
 refine WQ.thenC ?_
 refine Sr ?_
 refine Pa (.int .i64 21) rfl rfl ?_
 refine Nt ?_
 refine WC.ret ?_
 refine WQ.drop ?_
 exact WQ.returnsF h [] rfl (results1 rfl rfl) hle27 ⟨rfl, rfl⟩

noncomputable def f_wire_Reader_At (a0 : T_wire_Reader) : Option Int :=
  (some a0.at_)
def f_wire_Reader_At_post (a0 : T_wire_Reader) (v0_0 : Value) (g0 : Nat) : Int → Value → IM → HL → Prop :=
  fun (r0 : Int) (v : Value) (M' : IM) (H' : HL) => (.int .i64 r0) = v ∧ H' = [[(g0, .cells #[v0_0, (.int .i64 a0.at_), (GV a0.err)] 151 (0, 0))]]
theorem f_wire_Reader_At_ok (a0 : T_wire_Reader) (M : IM) (v0_0 : Value) (g0 : Nat) (h0_0 : RS (Kd.int .u8) M v0_0 a0.b) (res : Int) (h : f_wire_Reader_At a0 = some res) :
    Tri Tryd.prog 62 #[(pt g0 0)] M [[(g0, .cells #[v0_0, (.int .i64 a0.at_), (GV a0.err)] 151 (0, 0))]] (f_wire_Reader_At_post a0 v0_0 g0 res) := by
 unfold f_wire_Reader_At at h
 refine Tri.enter (fn := Tryd.f62) Tryd.func62 rfl (Nat.le_of_ble_eq_true rfl) ?_
 intro F ρ hρ
 refine Sr ?_
 refine Pa (.int .i64 0) rfl rfl ?_
 refine Ns ?_
 refine Pm (pt g0 0) (hρ 0) rfl ?_
 refine Pu (pt g0 0) (PO.nilCheck rfl) rfl ?_
 refine Pu (pt g0 1) (PO.fieldAddr fo151_1 rfl rfl) rfl ?_
 refine Pu (.int .i64 a0.at_) (PO.loadB 0 pl3 rfl rfl rfl) rfl ?_
 refine Pa (.int .i64 a0.at_) rfl rfl ?_
 refine Nt ?_
 refine WC.ret ?_
 exact WQ.returnsF h [[(g0, .cells #[v0_0, (.int .i64 a0.at_), (GV a0.err)] 151 (0, 0))]] rfl (results1 rfl rfl) (IM.le.refl _) ⟨rfl, rfl⟩

noncomputable def f_frame_head (a0 : (List Int)) : Option (Int × Int × Int × Bool × GErr) :=
  (if (decide ((a0.length : Int) = (0 : Int))) = true then (some ((0 : Int), (0 : Int), (0 : Int), false, GErr.nil)) else (grd (0 ≤ (0 : Int) ∧ (0 : Int) < a0.length) (if (decide ((rd a0 (0 : Int)) ≠ (197 : Int))) = true then ((f_fault_New (⟨#[115, 105, 103, 110]⟩ : ByteArray) (0 : Int) (5 : Int)).bind fun (r30 : GErr) => (some ((0 : Int), (0 : Int), (0 : Int), false, r30))) else (if (decide ((a0.length : Int) = (1 : Int))) = true then (some ((0 : Int), (0 : Int), (0 : Int), false, GErr.nil)) else (grd (0 ≤ (1 : Int) ∧ (1 : Int) < a0.length) (if (decide ((63 : Int) < (rd a0 (1 : Int)))) = true then ((f_fault_New (⟨#[107, 105, 110, 100]⟩ : ByteArray) (1 : Int) (5 : Int)).bind fun (r44 : GErr) => (some ((0 : Int), (0 : Int), (0 : Int), false, r44))) else (grd (0 ≤ (2 : Int) ∧ (2 : Int) ≤ (if (10 : Int) < (a0.length : Int) then (10 : Int) else (a0.length : Int)) ∧ (if (10 : Int) < (a0.length : Int) then (10 : Int) else (a0.length : Int)) ≤ (a0.length : Int)) ((f_wire_Read (sub a0 (2 : Int) (if (10 : Int) < (a0.length : Int) then (10 : Int) else (a0.length : Int)))).bind fun (r51 : T_wire_Reader) => ((f_wire_Reader_Int r51 (16384 : Int)).bind fun (r57, r58, r59) => ((f_wire_Reader_Err (⟨r51.b, r58, r59⟩ : T_wire_Reader)).bind fun (r64 : GErr) => ((f_fault_Of r64).bind fun (r69 : Int) => (if (decide (r69 = (0 : Int))) = true then (grd (0 ≤ (1 : Int) ∧ (1 : Int) < a0.length) ((f_wire_Reader_At (⟨r51.b, r58, r59⟩ : T_wire_Reader)).bind fun (r82 : Int) => (some (IntKind.i64.wrap (rd a0 (1 : Int)), IntKind.i64.wrap ((2 : Int) + r82), r57, true, GErr.nil)))) else (if (decide (r69 = (3 : Int))) = true then (some ((0 : Int), (0 : Int), (0 : Int), false, GErr.nil)) else ((f_wire_Reader_Err (⟨r51.b, r58, r59⟩ : T_wire_Reader)).bind fun (r88 : GErr) => ((f_fault_Wrap (⟨#[108, 101, 110, 103, 116, 104]⟩ : ByteArray) (2 : Int) r88).bind fun (r93 : GErr) => (some ((0 : Int), (0 : Int), (0 : Int), false, r93)))))))))))))))))
def f_frame_head_post (a0 : (List Int)) (v0 : Value) : (Int × Int × Int × Bool × GErr) → Value → IM → HL → Prop :=
  fun (p_ : (Int × Int × Int × Bool × GErr)) (v : Value) (M' : IM) (H' : HL) => match p_ with | (r0, r1, r2, r3, r4) => (.tuple #[(.int .i64 r0), (.int .i64 r1), (.int .i64 r2), (.bool r3), (GV r4)]) = v ∧ H' = []
theorem f_frame_head_ok (a0 : (List Int)) (M : IM) (v0 : Value) (h0 : RS (Kd.int .u8) M v0 a0) (hE : Env M) (res : (Int × Int × Int × Bool × GErr)) (h : f_frame_head a0 = some res) :
    Tri Tryd.prog 40 #[v0] M [] (f_frame_head_post a0 v0 res) := by
 unfold f_frame_head at h
 refine Tri.enter (fn := Tryd.f40) Tryd.func40 rfl (Nat.le_of_ble_eq_true rfl) ?_
 intro F ρ hρ
 refine Sr ?_
 refine Pa (.int .i64 0) rfl rfl ?_
 refine Pa (.int .i64 0) rfl rfl ?_
 refine Pa (.int .i64 0) rfl rfl ?_
 refine Pa (.bool false) rfl rfl ?_
 refine Pa (GV GErr.nil) rfl rfl ?_
 refine Nt ?_
 refine WC.seq ?_
 refine Sr ?_
 refine Pm v0 (hρ 0) rfl ?_
 refine Pu (.int .i64 (a0.length : Int)) (PO.lenS Tryd.underlying26 rfl h0.len) rfl ?_
 refine Pu (.bool (decide ((a0.length : Int) = (0 : Int)))) (PO.eql rfl rfl) rfl ?_
 refine Nt ?_
 refine WC.cond (b := decide ((a0.length : Int) = (0 : Int))) rfl (fun hb21 => ?_) (fun hb21 => ?_)
 have h := ite_t hb21 h
 refine Sr ?_
 refine Pa (.int .i64 0) rfl rfl ?_
 refine Pa (.int .i64 0) rfl rfl ?_
 refine Pa (.int .i64 0) rfl rfl ?_
 refine Pa (.bool false) rfl rfl ?_
 refine Pa (GV GErr.nil) rfl rfl ?_
 refine Nt ?_
 refine WC.ret ?_
 refine WQ.thenR ?_
 exact WQ.returnsF h [] rfl (results5 rfl rfl rfl rfl rfl rfl) (IM.le.refl _) ⟨rfl, rfl⟩
 have h := ite_f hb21 h
 refine WC.skip ?_
 refine WQ.thenC ?_
 refine WC.seq ?_
 refine Sr ?_
 refine Pm v0 (hρ 0) rfl ?_
 obtain ⟨hg22, h⟩ := grd_i h
 obtain ⟨p23, cs24, hat25, hrc26, hhas27⟩ := h0.at hg22.1 hg22.2 (by decide)
 obtain rfl := hrc26
 refine Pu (.pointer (some p23)) (PO.indexAddr (n := a0.length) Tryd.underlying26 sz5 rfl rfl hg22.1 hg22.2 hat25) rfl ?_
 refine Pu (.int .u8 (rd a0 (0 : Int))) (PO.loadM pl5 rfl (IM.has0 hhas27)) rfl ?_
 refine Pu (.bool (decide ((rd a0 (0 : Int)) ≠ 197))) (PO.neq rfl rfl) rfl ?_
 refine Nt ?_
 refine WC.cond (b := decide ((rd a0 (0 : Int)) ≠ 197)) rfl (fun hb29 => ?_) (fun hb29 => ?_)
 have h := ite_t hb29 h
 refine Sr ?_
 obtain ⟨r30, hr31, h⟩ := bnd h
 refine WL.eff (EO.call0 co37 (f_fault_New_ok (⟨#[115, 105, 103, 110]⟩ : ByteArray) (0 : Int) (5 : Int) _ r30 hr31) (args3 rfl rfl rfl)) rfl ?_
 rintro _ M32 _ hle33 ⟨_, ⟨rfl, rfl⟩, rfl⟩
 have h0 := h0.mono hle33
 have hE := hE.mono hle33
 refine WL.a0 ?_
 refine Pa (.int .i64 0) rfl rfl ?_
 refine Pa (.int .i64 0) rfl rfl ?_
 refine Pa (.int .i64 0) rfl rfl ?_
 refine Pa (.bool false) rfl rfl ?_
 refine Pa (GV r30) rfl rfl ?_
 refine Nt ?_
 refine WC.ret ?_
 refine WQ.thenR ?_
 exact WQ.returnsF h [] rfl (results5 rfl rfl rfl rfl rfl rfl) hle33 ⟨rfl, rfl⟩
 have h := ite_f hb29 h
 refine WC.skip ?_
 refine WQ.thenC ?_
 refine WC.seq ?_
 refine Sr ?_
 refine Pm v0 (hρ 0) rfl ?_
 refine Pu (.int .i64 (a0.length : Int)) (PO.lenS Tryd.underlying26 rfl h0.len) rfl ?_
 refine Pu (.bool (decide ((a0.length : Int) = (1 : Int)))) (PO.eql rfl rfl) rfl ?_
 refine Nt ?_
 refine WC.cond (b := decide ((a0.length : Int) = (1 : Int))) rfl (fun hb35 => ?_) (fun hb35 => ?_)
 have h := ite_t hb35 h
 refine Sr ?_
 refine Pa (.int .i64 0) rfl rfl ?_
 refine Pa (.int .i64 0) rfl rfl ?_
 refine Pa (.int .i64 0) rfl rfl ?_
 refine Pa (.bool false) rfl rfl ?_
 refine Pa (GV GErr.nil) rfl rfl ?_
 refine Nt ?_
 refine WC.ret ?_
 refine WQ.thenR ?_
 exact WQ.returnsF h [] rfl (results5 rfl rfl rfl rfl rfl rfl) (IM.le.refl _) ⟨rfl, rfl⟩
 have h := ite_f hb35 h
 refine WC.skip ?_
 refine WQ.thenC ?_
 refine WC.seq ?_
 refine Sr ?_
 refine Pm v0 (hρ 0) rfl ?_
 obtain ⟨hg36, h⟩ := grd_i h
 obtain ⟨p37, cs38, hat39, hrc40, hhas41⟩ := h0.at hg36.1 hg36.2 (by decide)
 obtain rfl := hrc40
 refine Pu (.pointer (some p37)) (PO.indexAddr (n := a0.length) Tryd.underlying26 sz5 rfl rfl hg36.1 hg36.2 hat39) rfl ?_
 refine Pu (.int .u8 (rd a0 (1 : Int))) (PO.loadM pl5 rfl (IM.has0 hhas41)) rfl ?_
 refine Pu (.bool (decide ((63 : Int) < (rd a0 (1 : Int))))) (PO.gtr rfl rfl) rfl ?_
 refine Nt ?_
 refine WC.cond (b := decide ((63 : Int) < (rd a0 (1 : Int)))) rfl (fun hb43 => ?_) (fun hb43 => ?_)
 have h := ite_t hb43 h
 refine Sr ?_
 obtain ⟨r44, hr45, h⟩ := bnd h
 refine WL.eff (EO.call0 co37 (f_fault_New_ok (⟨#[107, 105, 110, 100]⟩ : ByteArray) (1 : Int) (5 : Int) _ r44 hr45) (args3 rfl rfl rfl)) rfl ?_
 rintro _ M46 _ hle47 ⟨_, ⟨rfl, rfl⟩, rfl⟩
 have h0 := h0.mono hle47
 have hE := hE.mono hle47
 refine WL.a0 ?_
 refine Pa (.int .i64 0) rfl rfl ?_
 refine Pa (.int .i64 0) rfl rfl ?_
 refine Pa (.int .i64 0) rfl rfl ?_
 refine Pa (.bool false) rfl rfl ?_
 refine Pa (GV r44) rfl rfl ?_
 refine Nt ?_
 refine WC.ret ?_
 refine WQ.thenR ?_
 exact WQ.returnsF h [] rfl (results5 rfl rfl rfl rfl rfl rfl) hle47 ⟨rfl, rfl⟩
 have h := ite_f hb43 h
 refine WC.skip ?_
 refine WQ.thenC ?_
 refine Sr ?_
 refine Pm v0 (hρ 0) rfl ?_
 refine Pm v0 (hρ 0) rfl ?_
 refine Pu (.int .i64 (a0.length : Int)) (PO.lenS Tryd.underlying26 rfl h0.len) rfl ?_
 refine Pu (.int .i64 (if (10 : Int) < (a0.length : Int) then (10 : Int) else (a0.length : Int))) (PO.min rfl rfl) rfl ?_
 obtain ⟨hg49, h⟩ := grd_i h
 have h50 := h0.sub hg49.1 hg49.2.1 hg49.2.2
 refine Pu (slV v0 1 ((2 : Int)).toNat ((if (10 : Int) < (a0.length : Int) then (10 : Int) else (a0.length : Int))).toNat) (PO.slice (n := a0.length) (l := ((2 : Int)).toNat) (h := ((if (10 : Int) < (a0.length : Int) then (10 : Int) else (a0.length : Int))).toNat) Tryd.underlying26 sz5 rfl h0.len h0.cap ⟨_, _, rfl, hg49.1, rfl⟩ ⟨_, _, rfl, (Int.le_trans hg49.1 hg49.2.1), rfl⟩ (Int.toNat_le_toNat hg49.2.1) (toNat_le_len hg49.2.2)) rfl ?_
 obtain ⟨r51, hr52, h⟩ := bnd h
 refine WL.eff (EO.call0 co54 (f_wire_Read_ok (sub a0 (2 : Int) (if (10 : Int) < (a0.length : Int) then (10 : Int) else (a0.length : Int))) _ _ h50 r51 hr52) (args1 rfl)) rfl ?_
 rintro _ M53 _ hle54 ⟨_, ⟨g55, vq56_0, rfl, rfl, hq56_0⟩, rfl⟩
 have h0 := h0.mono hle54
 have h50 := h50.mono hle54
 have hE := hE.mono hle54
 refine WL.a1 ?_
 refine Pa (pt g55 0) rfl rfl ?_
 refine Ns ?_
 refine Pm (pt g55 0) rfl rfl ?_
 obtain ⟨⟨r57, r58, r59⟩, hr60, h⟩ := bnd h
 refine WL.eff (EO.call1 co60 (f_wire_Reader_Int_ok r51 (16384 : Int) _ _ _ hq56_0 (r57, r58, r59) hr60) (args2 rfl rfl)) rfl ?_
 rintro _ M61 _ hle62 ⟨_, ⟨rfl, rfl⟩, rfl⟩
 have h0 := h0.mono hle62
 have hq56_0 := hq56_0.mono hle62
 have hE := hE.mono hle62
 refine WL.a1 ?_
 refine Pa (.int .i64 r57) rfl rfl ?_
 refine Ns ?_
 refine Pm (pt g55 0) rfl rfl ?_
 obtain ⟨r64, hr65, h⟩ := bnd h
 refine WL.eff (EO.call1 co61 (f_wire_Reader_Err_ok (⟨r51.b, r58, r59⟩ : T_wire_Reader) _ _ _ hq56_0 r64 hr65) (args1 rfl)) rfl ?_
 rintro _ M66 _ hle67 ⟨_, ⟨rfl, rfl⟩, rfl⟩
 have h0 := h0.mono hle67
 have hq56_0 := hq56_0.mono hle67
 have hE := hE.mono hle67
 refine WL.a1 ?_
 obtain ⟨r69, hr70, h⟩ := bnd h
 refine WL.eff (EO.call0 co22 (f_fault_Of_ok r64 _ hE r69 hr70) (args1 rfl)) rfl ?_
 rintro _ M71 _ hle72 ⟨_, ⟨rfl, rfl⟩, rfl⟩
 have h0 := h0.mono hle72
 have hq56_0 := hq56_0.mono hle72
 have hE := hE.mono hle72
 refine WL.a0 ?_
 refine Pa (.int .i64 r69) rfl rfl ?_
 refine Ns ?_
 refine Pm (.int .i64 r69) rfl rfl ?_
 refine Nt ?_
 refine WC.block ?_
 refine Sr ?_
 refine Pu (.bool (decide (r69 = 0))) (PO.eql rfl rfl) rfl ?_
 refine Pa (.bool (decide (r69 = 0))) rfl rfl ?_
 refine Nt ?_
 refine WC.cond (b := decide (r69 = 0)) rfl (fun hb74 => ?_) (fun hb74 => ?_)
 have h := ite_t hb74 h
 refine WC.seq ?_
 refine WC.draw [0, 1, 3, 7, 0, 16, 48, 0, 63, 383, 1023, 2047, 4095] (.pure 0 (.pure 1 (.pure 2 (.pure 3 (.pure 4 (.pure 7 (.alt 5 (.pure 6 (.pure 8 (.pure 9 (.pure 10 (.pure 11 (.pure 12 .done)))))) .none))))))) mixed (by kernel_rfl) ?_
 refine Tp v0 rfl (PO.move (hρ 0)) rfl ?_
 obtain ⟨hg75, h⟩ := grd_i h
 obtain ⟨p76, cs77, hat78, hrc79, hhas80⟩ := h0.at hg75.1 hg75.2 (by decide)
 obtain rfl := hrc79
 refine Tp (.pointer (some p76)) rfl (PO.indexAddr (n := a0.length) Tryd.underlying26 sz5 rfl rfl hg75.1 hg75.2 hat78) rfl ?_
 refine Tp (.int .u8 (rd a0 (1 : Int))) rfl (PO.loadM pl5 rfl (IM.has0 hhas80)) rfl ?_
 refine Tp (.int .i64 (IntKind.i64.wrap (rd a0 (1 : Int)))) rfl (PO.conv us5 Tryd.underlying3 rfl) rfl ?_
 refine Tp (pt g55 0) rfl (PO.move rfl) rfl ?_
 refine Tp (.int .i64 r57) rfl (PO.move rfl) rfl ?_
 obtain ⟨r82, hr83, h⟩ := bnd h
 refine WT.alt rfl (EO.call1 co62 (f_wire_Reader_At_ok (⟨r51.b, r58, r59⟩ : T_wire_Reader) _ _ _ hq56_0 r82 hr83) (args1 rfl)) rfl ?_ ?_
 rintro _ M84 _ hle85 ⟨_, ⟨rfl, rfl⟩, rfl⟩
 have h0 := h0.mono hle85
 have hhas80 := hhas80.mono hle85
 have hq56_0 := hq56_0.mono hle85
 have hE := hE.mono hle85
 refine ⟨(StabL.st (StabA.of rfl (PO.move rfl) rfl) (StabL.anc rfl (StabL.st (StabA.of rfl (PO.conv us5 Tryd.underlying3 rfl) rfl) (StabL.st (StabA.of rfl (PO.loadM pl5 rfl (IM.has0 hhas80)) rfl) (StabL.st (StabA.of rfl (PO.indexAddr (n := a0.length) Tryd.underlying26 sz5 rfl rfl hg75.1 hg75.2 hat78) rfl) (StabL.st (StabA.of rfl (PO.move (hρ 0)) rfl) trivial)))))), ?_⟩
 refine WT.a1 ?_
 refine Tp (.int .i64 (IntKind.i64.wrap ((2 : Int) + r82))) rfl (PO.add rfl rfl) rfl ?_
 refine Tp (.int .i64 (IntKind.i64.wrap (rd a0 (1 : Int)))) rfl (PO.assign rfl) rfl ?_
 refine Tp (.int .i64 (IntKind.i64.wrap ((2 : Int) + r82))) rfl (PO.assign rfl) rfl ?_
 refine Tp (.int .i64 r57) rfl (PO.assign rfl) rfl ?_
 refine Tp (.bool true) rfl (PO.assign rfl) rfl ?_
 refine Tp (GV GErr.nil) rfl (PO.assign rfl) rfl ?_
 refine WT.fin ?_
 refine WQ.thenC ?_
 refine WC.ret ?_
 refine WQ.blockR ?_
 refine WQ.drop ?_
 exact WQ.returnsF h [] rfl (results5 rfl rfl rfl rfl rfl rfl) ((((hle54.trans hle62).trans hle67).trans hle72).trans hle85) ⟨rfl, rfl⟩
 exact WT.no
 have h := ite_f hb74 h
 refine Sr ?_
 refine Pu (.bool (decide (r69 = 3))) (PO.eql rfl rfl) rfl ?_
 refine Pa (.bool (decide (r69 = 3))) rfl rfl ?_
 refine Nt ?_
 refine WC.cond (b := decide (r69 = 3)) rfl (fun hb87 => ?_) (fun hb87 => ?_)
 have h := ite_t hb87 h
 refine Sr ?_
 refine Pa (.int .i64 0) rfl rfl ?_
 refine Pa (.int .i64 0) rfl rfl ?_
 refine Pa (.int .i64 0) rfl rfl ?_
 refine Pa (.bool false) rfl rfl ?_
 refine Pa (GV GErr.nil) rfl rfl ?_
 refine Nt ?_
 refine WC.ret ?_
 refine WQ.blockR ?_
 refine WQ.drop ?_
 exact WQ.returnsF h [] rfl (results5 rfl rfl rfl rfl rfl rfl) (((hle54.trans hle62).trans hle67).trans hle72) ⟨rfl, rfl⟩
 have h := ite_f hb87 h
 refine Sr ?_
 refine Pm (pt g55 0) rfl rfl ?_
 obtain ⟨r88, hr89, h⟩ := bnd h
 refine WL.eff (EO.call1 co61 (f_wire_Reader_Err_ok (⟨r51.b, r58, r59⟩ : T_wire_Reader) _ _ _ hq56_0 r88 hr89) (args1 rfl)) rfl ?_
 rintro _ M90 _ hle91 ⟨_, ⟨rfl, rfl⟩, rfl⟩
 have hq56_0 := hq56_0.mono hle91
 have hE := hE.mono hle91
 refine WL.a1 ?_
 obtain ⟨r93, hr94, h⟩ := bnd h
 refine WL.eff (EO.call0 co36 (f_fault_Wrap_ok (⟨#[108, 101, 110, 103, 116, 104]⟩ : ByteArray) (2 : Int) r88 _ r93 hr94) (args3 rfl rfl rfl)) rfl ?_
 rintro _ M95 _ hle96 ⟨_, ⟨rfl, rfl⟩, rfl⟩
 have hq56_0 := hq56_0.mono hle96
 have hE := hE.mono hle96
 refine WL.a0 ?_
 refine Pa (.int .i64 0) rfl rfl ?_
 refine Pa (.int .i64 0) rfl rfl ?_
 refine Pa (.int .i64 0) rfl rfl ?_
 refine Pa (.bool false) rfl rfl ?_
 refine Pa (GV r93) rfl rfl ?_
 refine Nt ?_
 refine WC.ret ?_
 refine WQ.blockR ?_
 refine WQ.drop ?_
 exact WQ.returnsF h [] rfl (results5 rfl rfl rfl rfl rfl rfl) (((((hle54.trans hle62).trans hle67).trans hle72).trans hle91).trans hle96) ⟨rfl, rfl⟩

noncomputable def f_crc_Open (a0 : (List Int)) : Option ((List Int) × Bool) :=
  (if (decide ((IntKind.i64.wrap ((a0.length : Int) - (4 : Int))) < (0 : Int))) = true then (some ([], false)) else (grd (0 ≤ IntKind.i64.wrap ((a0.length : Int) - (4 : Int)) ∧ IntKind.i64.wrap ((a0.length : Int) - (4 : Int)) < a0.length) (grd (0 ≤ IntKind.i64.wrap ((IntKind.i64.wrap ((a0.length : Int) - (4 : Int))) + (1 : Int)) ∧ IntKind.i64.wrap ((IntKind.i64.wrap ((a0.length : Int) - (4 : Int))) + (1 : Int)) < a0.length) (grd (0 ≤ IntKind.i64.wrap ((IntKind.i64.wrap ((a0.length : Int) - (4 : Int))) + (2 : Int)) ∧ IntKind.i64.wrap ((IntKind.i64.wrap ((a0.length : Int) - (4 : Int))) + (2 : Int)) < a0.length) (grd (0 ≤ IntKind.i64.wrap ((IntKind.i64.wrap ((a0.length : Int) - (4 : Int))) + (3 : Int)) ∧ IntKind.i64.wrap ((IntKind.i64.wrap ((a0.length : Int) - (4 : Int))) + (3 : Int)) < a0.length) (grd (0 ≤ (0 : Int) ∧ (0 : Int) ≤ IntKind.i64.wrap ((a0.length : Int) - (4 : Int)) ∧ IntKind.i64.wrap ((a0.length : Int) - (4 : Int)) ≤ (a0.length : Int)) ((f_crc_Sum (sub a0 (0 : Int) (IntKind.i64.wrap ((a0.length : Int) - (4 : Int))))).bind fun (r53 : Int) => (if (decide (r53 ≠ (orI .u32 (orI .u32 (orI .u32 (IntKind.u32.wrap (rd a0 (IntKind.i64.wrap ((a0.length : Int) - (4 : Int))))) (shlI .u32 (IntKind.u32.wrap (rd a0 (IntKind.i64.wrap ((IntKind.i64.wrap ((a0.length : Int) - (4 : Int))) + (1 : Int))))) (8 : Int))) (shlI .u32 (IntKind.u32.wrap (rd a0 (IntKind.i64.wrap ((IntKind.i64.wrap ((a0.length : Int) - (4 : Int))) + (2 : Int))))) (16 : Int))) (shlI .u32 (IntKind.u32.wrap (rd a0 (IntKind.i64.wrap ((IntKind.i64.wrap ((a0.length : Int) - (4 : Int))) + (3 : Int))))) (24 : Int))))) = true then (some ([], false)) else (grd (0 ≤ IntKind.i64.wrap ((a0.length : Int) - (4 : Int)) ∧ IntKind.i64.wrap ((a0.length : Int) - (4 : Int)) ≤ 274877906944) (some (a0.take (List.replicate (IntKind.i64.wrap ((a0.length : Int) - (4 : Int))).toNat (0 : Int)).length ++ (List.replicate (IntKind.i64.wrap ((a0.length : Int) - (4 : Int))).toNat (0 : Int)).drop a0.length, true)))))))))))
def f_crc_Open_post (a0 : (List Int)) (v0 : Value) : ((List Int) × Bool) → Value → IM → HL → Prop :=
  fun (p_ : ((List Int) × Bool)) (v : Value) (M' : IM) (H' : HL) => match p_ with | (r0, r1) => ∃ vz0 cz0, (.tuple #[vz0, (.bool r1)]) = v ∧ H' = [cz0] ∧ OwnS (Kd.int .u8) M' vz0 r0 cz0
theorem f_crc_Open_ok (a0 : (List Int)) (M : IM) (v0 : Value) (h0 : RS (Kd.int .u8) M v0 a0) (res : ((List Int) × Bool)) (h : f_crc_Open a0 = some res) :
    Tri Tryd.prog 41 #[v0] M [] (f_crc_Open_post a0 v0 res) := by
 unfold f_crc_Open at h
 refine Tri.enter (fn := Tryd.f41) Tryd.func41 rfl (Nat.le_of_ble_eq_true rfl) ?_
 intro F ρ hρ
 refine Sr ?_
 refine Pa (.slice none 0 0) rfl rfl ?_
 refine Pa (.bool false) rfl rfl ?_
 refine Ns ?_
 refine Pm v0 (hρ 0) rfl ?_
 refine Pu (.int .i64 (a0.length : Int)) (PO.lenS Tryd.underlying26 rfl h0.len) rfl ?_
 refine Pu (.int .i64 (IntKind.i64.wrap ((a0.length : Int) - (4 : Int)))) (PO.sub rfl rfl) rfl ?_
 refine Pa (.int .i64 (IntKind.i64.wrap ((a0.length : Int) - (4 : Int)))) rfl rfl ?_
 refine Nt ?_
 refine WC.seq ?_
 refine Sr ?_
 refine Pm (.int .i64 (IntKind.i64.wrap ((a0.length : Int) - (4 : Int)))) rfl rfl ?_
 refine Pu (.bool (decide ((IntKind.i64.wrap ((a0.length : Int) - (4 : Int))) < 0))) (PO.lss rfl rfl) rfl ?_
 refine Nt ?_
 refine WC.cond (b := decide ((IntKind.i64.wrap ((a0.length : Int) - (4 : Int))) < 0)) rfl (fun hb21 => ?_) (fun hb21 => ?_)
 have h := ite_t hb21 h
 refine Sr ?_
 refine Pa (.slice none 0 0) rfl rfl ?_
 refine Pa (.bool false) rfl rfl ?_
 refine Nt ?_
 refine WC.ret ?_
 refine WQ.thenR ?_
 refine WQ.e0 ?_
 exact WQ.returnsF h [[]] rfl (results2 rfl rfl rfl) (IM.le.refl _) ⟨(.slice none 0 0), [], rfl, rfl, (OwnS.nil _ _)⟩
 have h := ite_f hb21 h
 refine WC.skip ?_
 refine WQ.thenC ?_
 refine WC.seq ?_
 refine WC.draw [0, 0, 3, 7, 15, 0, 0, 64, 224, 480, 992, 2016, 4095, 0, 0, 16384, 57344, 122880, 253952, 516096, 1048575, 0, 0, 4194304, 14680064, 31457280, 65011712, 132120576, 268435455, 536870911] (.pure 0 (.pure 1 (.pure 2 (.pure 3 (.pure 4 (.pure 5 (.pure 6 (.pure 7 (.pure 8 (.pure 9 (.pure 10 (.pure 11 (.pure 12 (.pure 13 (.pure 14 (.pure 15 (.pure 16 (.pure 17 (.pure 18 (.pure 19 (.pure 20 (.pure 21 (.pure 22 (.pure 23 (.pure 24 (.pure 25 (.pure 26 (.pure 27 (.pure 28 (.pure 29 .done)))))))))))))))))))))))))))))) mixed (by kernel_rfl) ?_
 refine Tp v0 rfl (PO.move (hρ 0)) rfl ?_
 refine Tp (.int .i64 (IntKind.i64.wrap ((a0.length : Int) - (4 : Int)))) rfl (PO.move rfl) rfl ?_
 obtain ⟨hg23, h⟩ := grd_i h
 obtain ⟨p24, cs25, hat26, hrc27, hhas28⟩ := h0.at hg23.1 hg23.2 (by decide)
 obtain rfl := hrc27
 refine Tp (.pointer (some p24)) rfl (PO.indexAddr (n := a0.length) Tryd.underlying26 sz5 rfl rfl hg23.1 hg23.2 hat26) rfl ?_
 refine Tp (.int .u8 (rd a0 (IntKind.i64.wrap ((a0.length : Int) - (4 : Int))))) rfl (PO.loadM pl5 rfl (IM.has0 hhas28)) rfl ?_
 refine Tp (.int .u32 (IntKind.u32.wrap (rd a0 (IntKind.i64.wrap ((a0.length : Int) - (4 : Int)))))) rfl (PO.conv us5 Tryd.underlying73 rfl) rfl ?_
 refine Tp v0 rfl (PO.move (hρ 0)) rfl ?_
 refine Tp (.int .i64 (IntKind.i64.wrap ((a0.length : Int) - (4 : Int)))) rfl (PO.move rfl) rfl ?_
 refine Tp (.int .i64 (IntKind.i64.wrap ((IntKind.i64.wrap ((a0.length : Int) - (4 : Int))) + 1))) rfl (PO.add rfl rfl) rfl ?_
 obtain ⟨hg30, h⟩ := grd_i h
 obtain ⟨p31, cs32, hat33, hrc34, hhas35⟩ := h0.at hg30.1 hg30.2 (by decide)
 obtain rfl := hrc34
 refine Tp (.pointer (some p31)) rfl (PO.indexAddr (n := a0.length) Tryd.underlying26 sz5 rfl rfl hg30.1 hg30.2 hat33) rfl ?_
 refine Tp (.int .u8 (rd a0 (IntKind.i64.wrap ((IntKind.i64.wrap ((a0.length : Int) - (4 : Int))) + 1)))) rfl (PO.loadM pl5 rfl (IM.has0 hhas35)) rfl ?_
 refine Tp (.int .u32 (IntKind.u32.wrap (rd a0 (IntKind.i64.wrap ((IntKind.i64.wrap ((a0.length : Int) - (4 : Int))) + 1))))) rfl (PO.conv us5 Tryd.underlying73 rfl) rfl ?_
 refine Tp (.int .u32 (shlI .u32 (IntKind.u32.wrap (rd a0 (IntKind.i64.wrap ((IntKind.i64.wrap ((a0.length : Int) - (4 : Int))) + 1)))) (8 : Int))) rfl (PO.shl rfl rfl (by decide)) rfl ?_
 refine Tp (.int .u32 (orI .u32 (IntKind.u32.wrap (rd a0 (IntKind.i64.wrap ((a0.length : Int) - (4 : Int))))) (shlI .u32 (IntKind.u32.wrap (rd a0 (IntKind.i64.wrap ((IntKind.i64.wrap ((a0.length : Int) - (4 : Int))) + 1)))) (8 : Int)))) rfl (PO.or rfl rfl) rfl ?_
 refine Tp v0 rfl (PO.move (hρ 0)) rfl ?_
 refine Tp (.int .i64 (IntKind.i64.wrap ((a0.length : Int) - (4 : Int)))) rfl (PO.move rfl) rfl ?_
 refine Tp (.int .i64 (IntKind.i64.wrap ((IntKind.i64.wrap ((a0.length : Int) - (4 : Int))) + 2))) rfl (PO.add rfl rfl) rfl ?_
 obtain ⟨hg37, h⟩ := grd_i h
 obtain ⟨p38, cs39, hat40, hrc41, hhas42⟩ := h0.at hg37.1 hg37.2 (by decide)
 obtain rfl := hrc41
 refine Tp (.pointer (some p38)) rfl (PO.indexAddr (n := a0.length) Tryd.underlying26 sz5 rfl rfl hg37.1 hg37.2 hat40) rfl ?_
 refine Tp (.int .u8 (rd a0 (IntKind.i64.wrap ((IntKind.i64.wrap ((a0.length : Int) - (4 : Int))) + 2)))) rfl (PO.loadM pl5 rfl (IM.has0 hhas42)) rfl ?_
 refine Tp (.int .u32 (IntKind.u32.wrap (rd a0 (IntKind.i64.wrap ((IntKind.i64.wrap ((a0.length : Int) - (4 : Int))) + 2))))) rfl (PO.conv us5 Tryd.underlying73 rfl) rfl ?_
 refine Tp (.int .u32 (shlI .u32 (IntKind.u32.wrap (rd a0 (IntKind.i64.wrap ((IntKind.i64.wrap ((a0.length : Int) - (4 : Int))) + 2)))) (16 : Int))) rfl (PO.shl rfl rfl (by decide)) rfl ?_
 refine Tp (.int .u32 (orI .u32 (orI .u32 (IntKind.u32.wrap (rd a0 (IntKind.i64.wrap ((a0.length : Int) - (4 : Int))))) (shlI .u32 (IntKind.u32.wrap (rd a0 (IntKind.i64.wrap ((IntKind.i64.wrap ((a0.length : Int) - (4 : Int))) + 1)))) (8 : Int))) (shlI .u32 (IntKind.u32.wrap (rd a0 (IntKind.i64.wrap ((IntKind.i64.wrap ((a0.length : Int) - (4 : Int))) + 2)))) (16 : Int)))) rfl (PO.or rfl rfl) rfl ?_
 refine Tp v0 rfl (PO.move (hρ 0)) rfl ?_
 refine Tp (.int .i64 (IntKind.i64.wrap ((a0.length : Int) - (4 : Int)))) rfl (PO.move rfl) rfl ?_
 refine Tp (.int .i64 (IntKind.i64.wrap ((IntKind.i64.wrap ((a0.length : Int) - (4 : Int))) + 3))) rfl (PO.add rfl rfl) rfl ?_
 obtain ⟨hg44, h⟩ := grd_i h
 obtain ⟨p45, cs46, hat47, hrc48, hhas49⟩ := h0.at hg44.1 hg44.2 (by decide)
 obtain rfl := hrc48
 refine Tp (.pointer (some p45)) rfl (PO.indexAddr (n := a0.length) Tryd.underlying26 sz5 rfl rfl hg44.1 hg44.2 hat47) rfl ?_
 refine Tp (.int .u8 (rd a0 (IntKind.i64.wrap ((IntKind.i64.wrap ((a0.length : Int) - (4 : Int))) + 3)))) rfl (PO.loadM pl5 rfl (IM.has0 hhas49)) rfl ?_
 refine Tp (.int .u32 (IntKind.u32.wrap (rd a0 (IntKind.i64.wrap ((IntKind.i64.wrap ((a0.length : Int) - (4 : Int))) + 3))))) rfl (PO.conv us5 Tryd.underlying73 rfl) rfl ?_
 refine Tp (.int .u32 (shlI .u32 (IntKind.u32.wrap (rd a0 (IntKind.i64.wrap ((IntKind.i64.wrap ((a0.length : Int) - (4 : Int))) + 3)))) (24 : Int))) rfl (PO.shl rfl rfl (by decide)) rfl ?_
 refine Tp (.int .u32 (orI .u32 (orI .u32 (orI .u32 (IntKind.u32.wrap (rd a0 (IntKind.i64.wrap ((a0.length : Int) - (4 : Int))))) (shlI .u32 (IntKind.u32.wrap (rd a0 (IntKind.i64.wrap ((IntKind.i64.wrap ((a0.length : Int) - (4 : Int))) + 1)))) (8 : Int))) (shlI .u32 (IntKind.u32.wrap (rd a0 (IntKind.i64.wrap ((IntKind.i64.wrap ((a0.length : Int) - (4 : Int))) + 2)))) (16 : Int))) (shlI .u32 (IntKind.u32.wrap (rd a0 (IntKind.i64.wrap ((IntKind.i64.wrap ((a0.length : Int) - (4 : Int))) + 3)))) (24 : Int)))) rfl (PO.or rfl rfl) rfl ?_
 refine Tp (.int .u32 (orI .u32 (orI .u32 (orI .u32 (IntKind.u32.wrap (rd a0 (IntKind.i64.wrap ((a0.length : Int) - (4 : Int))))) (shlI .u32 (IntKind.u32.wrap (rd a0 (IntKind.i64.wrap ((IntKind.i64.wrap ((a0.length : Int) - (4 : Int))) + 1)))) (8 : Int))) (shlI .u32 (IntKind.u32.wrap (rd a0 (IntKind.i64.wrap ((IntKind.i64.wrap ((a0.length : Int) - (4 : Int))) + 2)))) (16 : Int))) (shlI .u32 (IntKind.u32.wrap (rd a0 (IntKind.i64.wrap ((IntKind.i64.wrap ((a0.length : Int) - (4 : Int))) + 3)))) (24 : Int)))) rfl (PO.assign rfl) rfl ?_
 refine WT.fin ?_
 refine WQ.thenC ?_
 refine WC.seq ?_
 refine Sr ?_
 refine Pm v0 (hρ 0) rfl ?_
 refine Pm (.int .i64 (IntKind.i64.wrap ((a0.length : Int) - (4 : Int)))) rfl rfl ?_
 obtain ⟨hg51, h⟩ := grd_i h
 have h52 := h0.sub hg51.1 hg51.2.1 hg51.2.2
 refine Pu (slV v0 1 ((0 : Int)).toNat (IntKind.i64.wrap ((a0.length : Int) - (4 : Int))).toNat) (PO.slice (n := a0.length) (l := ((0 : Int)).toNat) (h := (IntKind.i64.wrap ((a0.length : Int) - (4 : Int))).toNat) Tryd.underlying26 sz5 rfl h0.len h0.cap (bound0 rfl) ⟨_, _, rfl, (Int.le_trans hg51.1 hg51.2.1), rfl⟩ (Int.toNat_le_toNat hg51.2.1) (toNat_le_len hg51.2.2)) rfl ?_
 obtain ⟨r53, hr54, h⟩ := bnd h
 refine WL.eff (EO.call0 co59 (f_crc_Sum_ok (sub a0 (0 : Int) (IntKind.i64.wrap ((a0.length : Int) - (4 : Int)))) _ _ h52 r53 hr54) (args1 rfl)) rfl ?_
 rintro _ M55 _ hle56 ⟨_, ⟨rfl, rfl⟩, rfl⟩
 have h0 := h0.mono hle56
 have h52 := h52.mono hle56
 refine WL.a0 ?_
 refine Pm (.int .u32 (orI .u32 (orI .u32 (orI .u32 (IntKind.u32.wrap (rd a0 (IntKind.i64.wrap ((a0.length : Int) - (4 : Int))))) (shlI .u32 (IntKind.u32.wrap (rd a0 (IntKind.i64.wrap ((IntKind.i64.wrap ((a0.length : Int) - (4 : Int))) + 1)))) (8 : Int))) (shlI .u32 (IntKind.u32.wrap (rd a0 (IntKind.i64.wrap ((IntKind.i64.wrap ((a0.length : Int) - (4 : Int))) + 2)))) (16 : Int))) (shlI .u32 (IntKind.u32.wrap (rd a0 (IntKind.i64.wrap ((IntKind.i64.wrap ((a0.length : Int) - (4 : Int))) + 3)))) (24 : Int)))) rfl rfl ?_
 refine Pu (.bool (decide (r53 ≠ (orI .u32 (orI .u32 (orI .u32 (IntKind.u32.wrap (rd a0 (IntKind.i64.wrap ((a0.length : Int) - (4 : Int))))) (shlI .u32 (IntKind.u32.wrap (rd a0 (IntKind.i64.wrap ((IntKind.i64.wrap ((a0.length : Int) - (4 : Int))) + 1)))) (8 : Int))) (shlI .u32 (IntKind.u32.wrap (rd a0 (IntKind.i64.wrap ((IntKind.i64.wrap ((a0.length : Int) - (4 : Int))) + 2)))) (16 : Int))) (shlI .u32 (IntKind.u32.wrap (rd a0 (IntKind.i64.wrap ((IntKind.i64.wrap ((a0.length : Int) - (4 : Int))) + 3)))) (24 : Int)))))) (PO.neq rfl rfl) rfl ?_
 refine Nt ?_
 refine WC.cond (b := decide (r53 ≠ (orI .u32 (orI .u32 (orI .u32 (IntKind.u32.wrap (rd a0 (IntKind.i64.wrap ((a0.length : Int) - (4 : Int))))) (shlI .u32 (IntKind.u32.wrap (rd a0 (IntKind.i64.wrap ((IntKind.i64.wrap ((a0.length : Int) - (4 : Int))) + 1)))) (8 : Int))) (shlI .u32 (IntKind.u32.wrap (rd a0 (IntKind.i64.wrap ((IntKind.i64.wrap ((a0.length : Int) - (4 : Int))) + 2)))) (16 : Int))) (shlI .u32 (IntKind.u32.wrap (rd a0 (IntKind.i64.wrap ((IntKind.i64.wrap ((a0.length : Int) - (4 : Int))) + 3)))) (24 : Int))))) rfl (fun hb58 => ?_) (fun hb58 => ?_)
 have h := ite_t hb58 h
 refine Sr ?_
 refine Pa (.slice none 0 0) rfl rfl ?_
 refine Pa (.bool false) rfl rfl ?_
 refine Nt ?_
 refine WC.ret ?_
 refine WQ.thenR ?_
 refine WQ.e0 ?_
 exact WQ.returnsF h [[]] rfl (results2 rfl rfl rfl) hle56 ⟨(.slice none 0 0), [], rfl, rfl, (OwnS.nil _ _)⟩
 have h := ite_f hb58 h
 refine WC.skip ?_
 refine WQ.thenC ?_
 refine Sr ?_
 refine Pm (.int .i64 (IntKind.i64.wrap ((a0.length : Int) - (4 : Int)))) rfl rfl ?_
 obtain ⟨hg63, h⟩ := grd_i h
 refine WL.eff (EO.makeSlice (dd := (Kd.int .u8)) Tryd.underlying26 in5 rfl rfl rfl rfl rfl hg63.1 (by decide) (makeB rfl hg63.1 hg63.2)) rfl ?_
 rintro v62 _ _ - ⟨rfl, c60, rfl, h61⟩
 refine Pa v62 rfl rfl ?_
 refine Ns ?_
 refine Pm v62 rfl rfl ?_
 refine Pm v0 (hρ 0) rfl ?_
 refine WL.eff (EO.copy (v := v62) (dd := (Kd.int .u8)) (xs := List.replicate (IntKind.i64.wrap ((a0.length : Int) - (4 : Int))).toNat (0 : Int)) (ys := a0) Tryd.underlying26 sz5 rfl rfl h61 (h0.src _)) rfl ?_
 rintro _ _ _ - ⟨rfl, rfl, c64, rfl, h65⟩
 refine Ns ?_
 refine Pm v62 rfl rfl ?_
 refine Pa v62 rfl rfl ?_
 refine Pa (.bool true) rfl rfl ?_
 refine Nt ?_
 refine WC.ret ?_
 exact WQ.returnsF h [c64] rfl (results2 rfl rfl rfl) hle56 ⟨v62, c64, rfl, rfl, h65⟩

noncomputable def f_frame_Next (a0 : (List Int)) : Option (T_api_Frame × Int × GErr) :=
  ((f_frame_head a0).bind fun (r22, r23, r24, r25, r26) => (((if (!r26.isNil) = true then (some true) else (if (!r25) = true then (some true) else (some (decide ((a0.length : Int) < (IntKind.i64.wrap ((IntKind.i64.wrap (r23 + r24)) + (4 : Int)))))))) : Option Bool).bind fun (x35 : Bool) => (if x35 = true then (some ((⟨(0 : Int), []⟩ : T_api_Frame), (0 : Int), r26)) else (grd (0 ≤ (0 : Int) ∧ (0 : Int) ≤ IntKind.i64.wrap ((IntKind.i64.wrap (r23 + r24)) + (4 : Int)) ∧ IntKind.i64.wrap ((IntKind.i64.wrap (r23 + r24)) + (4 : Int)) ≤ (a0.length : Int)) ((f_crc_Open (sub a0 (0 : Int) (IntKind.i64.wrap ((IntKind.i64.wrap (r23 + r24)) + (4 : Int))))).bind fun (r43, r44) => (if (!r44) = true then ((f_fault_New (⟨#[115, 117, 109]⟩ : ByteArray) (IntKind.i64.wrap (r23 + r24)) (4 : Int)).bind fun (r51 : GErr) => (some ((⟨(0 : Int), []⟩ : T_api_Frame), (0 : Int), r51))) else (grd (0 ≤ r23 ∧ r23 ≤ (r43.length : Int) ∧ (r43.length : Int) ≤ (r43.length : Int)) (some ((⟨r22, sub r43 r23 (r43.length : Int)⟩ : T_api_Frame), IntKind.i64.wrap ((IntKind.i64.wrap (r23 + r24)) + (4 : Int)), GErr.nil)))))))))
def f_frame_Next_post (a0 : (List Int)) (v0 : Value) : (T_api_Frame × Int × GErr) → Value → IM → HL → Prop :=
  fun (p_ : (T_api_Frame × Int × GErr)) (v : Value) (M' : IM) (H' : HL) => match p_ with | (r0, r1, r2) => ∃ vz0_1 cz0_1, (.tuple #[(.agg #[(.int .i64 r0.Kind), vz0_1]), (.int .i64 r1), (GV r2)]) = v ∧ H' = [cz0_1] ∧ OwnS (Kd.int .u8) M' vz0_1 r0.Body cz0_1
theorem f_frame_Next_ok (a0 : (List Int)) (M : IM) (v0 : Value) (h0 : RS (Kd.int .u8) M v0 a0) (hE : Env M) (res : (T_api_Frame × Int × GErr)) (h : f_frame_Next a0 = some res) :
    Tri Tryd.prog 18 #[v0] M [] (f_frame_Next_post a0 v0 res) := by
 unfold f_frame_Next at h
 refine Tri.enter (fn := Tryd.f18) Tryd.func18 rfl (Nat.le_of_ble_eq_true rfl) ?_
 intro F ρ hρ
 refine Sr ?_
 refine WL.eff (EO.alloc ze40 rfl) rfl ?_
 rintro _ _ _ - ⟨rfl, g21, rfl, rfl⟩
 refine Pa (.int .i64 0) rfl rfl ?_
 refine Pa (GV GErr.nil) rfl rfl ?_
 refine Ns ?_
 refine Pm v0 (hρ 0) rfl ?_
 obtain ⟨⟨r22, r23, r24, r25, r26⟩, hr27, h⟩ := bnd h
 refine WL.eff (EO.call0 co40 (f_frame_head_ok a0 _ _ h0 hE (r22, r23, r24, r25, r26) hr27) (args1 rfl)) rfl ?_
 rintro _ M28 _ hle29 ⟨_, ⟨rfl, rfl⟩, rfl⟩
 have h0 := h0.mono hle29
 have hE := hE.mono hle29
 refine WL.a0 ?_
 refine Pm (.tuple #[(.int .i64 r22), (.int .i64 r23), (.int .i64 r24), (.bool r25), (GV r26)]) rfl rfl ?_
 refine Pu (.int .i64 r22) (PO.extract rfl rfl) rfl ?_
 refine Pu (.int .i64 r23) (PO.extract rfl rfl) rfl ?_
 refine Pu (.int .i64 r24) (PO.extract rfl rfl) rfl ?_
 refine Pu (.bool r25) (PO.extract rfl rfl) rfl ?_
 refine Pu (GV r26) (PO.extract rfl rfl) rfl ?_
 refine Pa (.int .i64 r22) rfl rfl ?_
 refine Pa (.int .i64 r23) rfl rfl ?_
 refine Pa (.int .i64 r24) rfl rfl ?_
 refine Pa (.bool r25) rfl rfl ?_
 refine Pa (GV r26) rfl rfl ?_
 refine Nt ?_
 refine WC.seq ?_
 obtain ⟨x35, hj36, h⟩ := bnd h
 refine WC.joinF (fun (x35 : Bool) ρ' M' H' => M28.le M' ∧ [(g21, .cells #[(.int .i64 0), (.slice none 0 0)] 40 (0, 0))] :: F = H' ∧ ρ' 0 = v0 ∧ ρ' 2 = (pt g21 0) ∧ ρ' 5 = (.int .i64 r22) ∧ ρ' 6 = (.int .i64 r23) ∧ ρ' 7 = (.int .i64 r24) ∧ ρ' 9 = (GV r26) ∧ ρ' 34 = (.bool x35)) x35 ?_ ?_
 have h336 := h
 have h := hj36
 refine WC.region ?_
 refine Pm (GV r26) rfl rfl ?_
 refine Pu (.bool (!r26.isNil)) (PO.errNotNil Tryd.underlying28 rfl) rfl ?_
 refine Pm (.bool (!r26.isNil)) rfl rfl ?_
 rcases Bool.eq_false_or_eq_true (!r26.isNil) with hb37 | hb37
 have h := ite_t hb37 h
 iterate 2 refine Of 22 rfl rfl hb37 rfl ?_
 refine Pu (.bool true) (PO.pickT rfl hb37 rfl) rfl ?_
 refine Pm (.bool true) rfl rfl ?_
 iterate 7 refine Of 26 rfl rfl rfl rfl ?_
 refine Pu (.bool true) (PO.pickT rfl rfl rfl) rfl ?_
 refine WL.nil ?_
 obtain rfl := Option.some.inj h
 refine WQ.thenJ ?_
 exact ⟨(IM.le.refl _), rfl, (hρ 0), rfl, rfl, rfl, rfl, rfl, rfl⟩
 have h := ite_f hb37 h
 refine On 22 rfl rfl hb37 ?_
 refine Pm (.bool r25) rfl rfl ?_
 refine On 22 rfl rfl hb37 ?_
 refine Pu (.bool (!r25)) (PO.not rfl) rfl ?_
 refine Pu (.bool (!r25)) (PO.pickF rfl hb37 rfl) rfl ?_
 refine Pm (.bool (!r25)) rfl rfl ?_
 rcases Bool.eq_false_or_eq_true (!r25) with hb38 | hb38
 have h := ite_t hb38 h
 iterate 7 refine Of 26 rfl rfl hb38 rfl ?_
 refine Pu (.bool true) (PO.pickT rfl hb38 rfl) rfl ?_
 refine WL.nil ?_
 obtain rfl := Option.some.inj h
 refine WQ.thenJ ?_
 exact ⟨(IM.le.refl _), rfl, (hρ 0), rfl, rfl, rfl, rfl, rfl, rfl⟩
 have h := ite_f hb38 h
 refine On 26 rfl rfl hb38 ?_
 refine Pm v0 (hρ 0) rfl ?_
 refine On 26 rfl rfl hb38 ?_
 refine Pu (.int .i64 (a0.length : Int)) (PO.lenS Tryd.underlying26 rfl h0.len) rfl ?_
 refine On 26 rfl rfl hb38 ?_
 refine Pm (.int .i64 r23) rfl rfl ?_
 refine On 26 rfl rfl hb38 ?_
 refine Pm (.int .i64 r24) rfl rfl ?_
 refine On 26 rfl rfl hb38 ?_
 refine Pu (.int .i64 (IntKind.i64.wrap (r23 + r24))) (PO.add rfl rfl) rfl ?_
 refine On 26 rfl rfl hb38 ?_
 refine Pu (.int .i64 (IntKind.i64.wrap ((IntKind.i64.wrap (r23 + r24)) + 4))) (PO.add rfl rfl) rfl ?_
 refine On 26 rfl rfl hb38 ?_
 refine Pu (.bool (decide ((a0.length : Int) < (IntKind.i64.wrap ((IntKind.i64.wrap (r23 + r24)) + 4))))) (PO.lss rfl rfl) rfl ?_
 refine Pu (.bool (decide ((a0.length : Int) < (IntKind.i64.wrap ((IntKind.i64.wrap (r23 + r24)) + 4))))) (PO.pickF rfl hb38 rfl) rfl ?_
 refine WL.nil ?_
 obtain rfl := Option.some.inj h
 refine WQ.thenJ ?_
 exact ⟨(IM.le.refl _), rfl, (hρ 0), rfl, rfl, rfl, rfl, rfl, rfl⟩
 rintro ρ36 M36 H36 ⟨hle36, rfl, hs36_0, hs36_2, hs36_5, hs36_6, hs36_7, hs36_9, hs36_34⟩
 have h0 := h0.mono hle36
 have hE := hE.mono hle36
 refine WC.cond (b := x35) hs36_34 (fun hb39 => ?_) (fun hb39 => ?_)
 have h := ite_t hb39 h
 refine Sr ?_
 refine Pu (.agg #[(.int .i64 0), (.slice none 0 0)]) (PO.buildL (cl := [(.int .i64 0), (.slice none 0 0)]) ze40 fp40 Parts.nil rfl) rfl ?_
 refine Pm (GV r26) hs36_9 rfl ?_
 refine WL.eff (EO.storeL (v := (.agg #[(.int .i64 0), (.slice none 0 0)])) (vl := [(.int .i64 0), (.slice none 0 0)]) (arr' := [(.int .i64 0), (.slice none 0 0)]) rfl sz40 hs36_2 rfl (onesOf (Ones.cons rfl (Ones.cons rfl Ones.nil))) rfl rfl rfl) rfl ?_
 rintro _ _ _ - ⟨rfl, rfl⟩
 refine Pa (.int .i64 0) rfl rfl ?_
 refine Pa (GV r26) rfl rfl ?_
 refine Nt ?_
 refine WC.ret ?_
 refine WQ.thenR ?_
 refine WQ.e0 ?_
 refine WQ.f1 ?_
 exact WQ.returnsD h [[]] (fun _ hs => hs.drop) (resultsLN rfl (RVs.cons (RV.cellA (cs := [(.int .i64 0), (.slice none 0 0)]) 0 ag40 sz40 hs36_2 rfl rfl) (RVs.cons (RV.tmp rfl) (RVs.cons (RV.tmp rfl) RVs.nil)))) (hle29.trans hle36) ⟨(.slice none 0 0), [], rfl, rfl, (OwnS.nil _ _)⟩
 have h := ite_f hb39 h
 refine WC.skip ?_
 refine WQ.thenC ?_
 refine Sr ?_
 refine Pm v0 hs36_0 rfl ?_
 refine Pm (.int .i64 r23) hs36_6 rfl ?_
 refine Pm (.int .i64 r24) hs36_7 rfl ?_
 refine Pu (.int .i64 (IntKind.i64.wrap (r23 + r24))) (PO.add rfl rfl) rfl ?_
 refine Pu (.int .i64 (IntKind.i64.wrap ((IntKind.i64.wrap (r23 + r24)) + 4))) (PO.add rfl rfl) rfl ?_
 obtain ⟨hg41, h⟩ := grd_i h
 have h42 := h0.sub hg41.1 hg41.2.1 hg41.2.2
 refine Pu (slV v0 1 ((0 : Int)).toNat (IntKind.i64.wrap ((IntKind.i64.wrap (r23 + r24)) + 4)).toNat) (PO.slice (n := a0.length) (l := ((0 : Int)).toNat) (h := (IntKind.i64.wrap ((IntKind.i64.wrap (r23 + r24)) + 4)).toNat) Tryd.underlying26 sz5 rfl h0.len h0.cap (bound0 rfl) ⟨_, _, rfl, (Int.le_trans hg41.1 hg41.2.1), rfl⟩ (Int.toNat_le_toNat hg41.2.1) (toNat_le_len hg41.2.2)) rfl ?_
 obtain ⟨⟨r43, r44⟩, hr45, h⟩ := bnd h
 refine WL.eff (EO.call0 co41 (f_crc_Open_ok (sub a0 (0 : Int) (IntKind.i64.wrap ((IntKind.i64.wrap (r23 + r24)) + 4))) _ _ h42 (r43, r44) hr45) (args1 rfl)) rfl ?_
 rintro _ M46 _ hle47 ⟨_, ⟨vq48, cq48, rfl, rfl, hq48⟩, rfl⟩
 have h0 := h0.mono hle47
 have h42 := h42.mono hle47
 have hE := hE.mono hle47
 refine WL.a1 ?_
 refine Pm (.tuple #[vq48, (.bool r44)]) rfl rfl ?_
 refine Pu vq48 (PO.extract rfl rfl) rfl ?_
 refine Pu (.bool r44) (PO.extract rfl rfl) rfl ?_
 refine Pa vq48 rfl rfl ?_
 refine Pa (.bool r44) rfl rfl ?_
 refine Nt ?_
 refine WC.seq ?_
 refine Sr ?_
 refine Pm (.bool r44) rfl rfl ?_
 refine Pu (.bool (!r44)) (PO.not rfl) rfl ?_
 refine Nt ?_
 refine WC.cond (b := !r44) rfl (fun hb50 => ?_) (fun hb50 => ?_)
 have h := ite_t hb50 h
 refine Sr ?_
 refine Pu (.agg #[(.int .i64 0), (.slice none 0 0)]) (PO.buildL (cl := [(.int .i64 0), (.slice none 0 0)]) ze40 fp40 Parts.nil rfl) rfl ?_
 refine Pm (.int .i64 r23) hs36_6 rfl ?_
 refine Pm (.int .i64 r24) hs36_7 rfl ?_
 refine Pu (.int .i64 (IntKind.i64.wrap (r23 + r24))) (PO.add rfl rfl) rfl ?_
 obtain ⟨r51, hr52, h⟩ := bnd h
 refine WL.eff (EO.call0 co37 (f_fault_New_ok (⟨#[115, 117, 109]⟩ : ByteArray) (IntKind.i64.wrap (r23 + r24)) (4 : Int) _ r51 hr52) (args3 rfl rfl rfl)) rfl ?_
 rintro _ M53 _ hle54 ⟨_, ⟨rfl, rfl⟩, rfl⟩
 have hq48 := hq48.mono hle54
 have hE := hE.mono hle54
 refine WL.a0 ?_
 refine WL.f1 ?_
 refine WL.eff (EO.storeL (v := (.agg #[(.int .i64 0), (.slice none 0 0)])) (vl := [(.int .i64 0), (.slice none 0 0)]) (arr' := [(.int .i64 0), (.slice none 0 0)]) rfl sz40 hs36_2 rfl (onesOf (Ones.cons rfl (Ones.cons rfl Ones.nil))) rfl rfl rfl) rfl ?_
 rintro _ _ _ - ⟨rfl, rfl⟩
 refine Pa (.int .i64 0) rfl rfl ?_
 refine Pa (GV r51) rfl rfl ?_
 refine Nt ?_
 refine WC.ret ?_
 refine WQ.thenR ?_
 refine WQ.e0 ?_
 refine WQ.f2 ?_
 refine WQ.drop ?_
 refine WQ.f1 ?_
 exact WQ.returnsD h [[]] (fun _ hs => hs.drop) (resultsLN rfl (RVs.cons (RV.cellA (cs := [(.int .i64 0), (.slice none 0 0)]) 0 ag40 sz40 hs36_2 rfl rfl) (RVs.cons (RV.tmp rfl) (RVs.cons (RV.tmp rfl) RVs.nil)))) (((hle29.trans hle36).trans hle47).trans hle54) ⟨(.slice none 0 0), [], rfl, rfl, (OwnS.nil _ _)⟩
 have h := ite_f hb50 h
 refine WC.skip ?_
 refine WQ.thenC ?_
 refine Sr ?_
 refine Pm (.int .i64 r22) hs36_5 rfl ?_
 refine Pm vq48 rfl rfl ?_
 refine Pm (.int .i64 r23) hs36_6 rfl ?_
 obtain ⟨hg57, h⟩ := grd_i h
 have h58 := hq48.sub hg57.1 hg57.2.1 hg57.2.2
 refine Pu (slV vq48 1 (r23).toNat ((r43.length : Int)).toNat) (PO.slice (n := r43.length) (l := (r23).toNat) (h := ((r43.length : Int)).toNat) Tryd.underlying26 sz5 rfl hq48.len hq48.cap ⟨_, _, rfl, hg57.1, rfl⟩ (boundN_ rfl) (Int.toNat_le_toNat hg57.2.1) (toNat_le_len hg57.2.2)) rfl ?_
 refine Pu (.agg #[(.int .i64 r22), (slV vq48 1 (r23).toNat ((r43.length : Int)).toNat)]) (PO.buildL (cl := [(.int .i64 r22), (slV vq48 1 (r23).toNat ((r43.length : Int)).toNat)]) ze40 fp40 (Parts.cons (congrArg Value.cells (show ev _ _ = (.int .i64 r22) from rfl)) (Parts.cons ((congrArg Value.cells (show ev _ _ = (slV vq48 1 (r23).toNat ((r43.length : Int)).toNat) from rfl)).trans h58.cells) Parts.nil)) rfl) rfl ?_
 refine Pm (.int .i64 r23) hs36_6 rfl ?_
 refine Pm (.int .i64 r24) hs36_7 rfl ?_
 refine Pu (.int .i64 (IntKind.i64.wrap (r23 + r24))) (PO.add rfl rfl) rfl ?_
 refine Pu (.int .i64 (IntKind.i64.wrap ((IntKind.i64.wrap (r23 + r24)) + 4))) (PO.add rfl rfl) rfl ?_
 refine WL.f1 ?_
 refine WL.eff (EO.storeL (v := (.agg #[(.int .i64 r22), (slV vq48 1 (r23).toNat ((r43.length : Int)).toNat)])) (vl := [(.int .i64 r22), (slV vq48 1 (r23).toNat ((r43.length : Int)).toNat)]) (arr' := [(.int .i64 r22), (slV vq48 1 (r23).toNat ((r43.length : Int)).toNat)]) rfl sz40 hs36_2 rfl (onesOf (Ones.cons rfl (Ones.cons (OwnS.one h58) Ones.nil))) rfl rfl rfl) rfl ?_
 rintro _ _ _ - ⟨rfl, rfl⟩
 refine Pa (.int .i64 (IntKind.i64.wrap ((IntKind.i64.wrap (r23 + r24)) + 4))) rfl rfl ?_
 refine Pa (GV GErr.nil) rfl rfl ?_
 refine Nt ?_
 refine WC.ret ?_
 exact WQ.returnsD h [cq48] (fun _ hs => hs.drop) (resultsLN rfl (RVs.cons (RV.cellA (cs := [(.int .i64 r22), (slV vq48 1 (r23).toNat ((r43.length : Int)).toNat)]) 0 ag40 sz40 hs36_2 rfl rfl) (RVs.cons (RV.tmp rfl) (RVs.cons (RV.tmp rfl) RVs.nil)))) ((hle29.trans hle36).trans hle47) ⟨(slV vq48 1 (r23).toNat ((r43.length : Int)).toNat), cq48, rfl, rfl, h58⟩


end Go.Proofs.YtjiffdgidodebaaDoor.G
