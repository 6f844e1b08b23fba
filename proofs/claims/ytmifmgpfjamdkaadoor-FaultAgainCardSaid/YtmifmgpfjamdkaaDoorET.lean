/- The values of the structs of this program, and what their cells are. Printed by a program of the session (gen). -/
import Derived.Test.YtmifmgpfjamdkaaDoorKEq
import Derived.Test.YtmifmgpfjamdkaaDoorKRefl
namespace Go.Proofs.YtmifmgpfjamdkaaDoor.G
open Go Go.KK

abbrev GV (e : GErr) : Value := e.val 35 65 83
abbrev kdErr : Kd GErr := kdErrOf 35 65 83

structure T_ref01_Step where
  Op : ByteArray
  At : Int
instance : Inhabited T_ref01_Step := ⟨⟨⟨#[]⟩, default⟩⟩
def kd_ref01_Step : Kd T_ref01_Step := Kd.iso (fun x => (x.Op, x.At, ())) (Kd.cons Kd.str (Kd.cons (Kd.int .i64) Kd.nil))
theorem kd_ref01_Step_open {M : IM} {cs : List Value} {x : T_ref01_Step} (h : kd_ref01_Step.rc M cs x) : cs = [(.string x.Op), (.int .i64 x.At)] := by
  obtain ⟨c0, d0, rfl, rfl, ⟨c1, d1, rfl, rfl, rfl⟩⟩ := h
  exact rfl
theorem kd_ref01_Step_mk {M : IM} {x : T_ref01_Step} : kd_ref01_Step.rc M [(.string x.Op), (.int .i64 x.At)] x := by
  exact ⟨_, _, rfl, rfl, ⟨_, _, rfl, rfl, rfl⟩⟩
theorem kd_ref01_Step_flat : kd_ref01_Step.Flat := fun M M' cs x h => by obtain rfl := kd_ref01_Step_open h; exact kd_ref01_Step_mk

structure T_ref01_Chain where
  Steps : (List T_ref01_Step)
  Code : Int
instance : Inhabited T_ref01_Chain := ⟨⟨default, default⟩⟩
def kd_ref01_Chain : Kd T_ref01_Chain := Kd.iso (fun x => (x.Steps, x.Code, ())) (Kd.cons (Kd.slice kd_ref01_Step) (Kd.cons (Kd.int .i64) Kd.nil))
theorem kd_ref01_Chain_open {M : IM} {cs : List Value} {x : T_ref01_Chain} (h : kd_ref01_Chain.rc M cs x) : ∃ vq_0, cs = [vq_0, (.int .i64 x.Code)] ∧ RS kd_ref01_Step M vq_0 x.Steps := by
  obtain ⟨c0, d0, rfl, ⟨v0, rfl, k0⟩, ⟨c1, d1, rfl, rfl, rfl⟩⟩ := h
  exact ⟨v0, rfl, k0⟩
theorem kd_ref01_Chain_mk {M : IM} {x : T_ref01_Chain} {vq_0 : Value} (hq_0 : RS kd_ref01_Step M vq_0 x.Steps) : kd_ref01_Chain.rc M [vq_0, (.int .i64 x.Code)] x := by
  exact ⟨_, _, rfl, ⟨_, rfl, hq_0⟩, ⟨_, _, rfl, rfl, rfl⟩⟩

structure T_api_Fault where
  Op : ByteArray
  At : Int
  Err : GErr
instance : Inhabited T_api_Fault := ⟨⟨⟨#[]⟩, default, default⟩⟩
def kd_api_Fault : Kd T_api_Fault := Kd.iso (fun x => (x.Op, x.At, x.Err, ())) (Kd.cons Kd.str (Kd.cons (Kd.int .i64) (Kd.cons kdErr Kd.nil)))
theorem kd_api_Fault_open {M : IM} {cs : List Value} {x : T_api_Fault} (h : kd_api_Fault.rc M cs x) : cs = [(.string x.Op), (.int .i64 x.At), (GV x.Err)] := by
  obtain ⟨c0, d0, rfl, rfl, ⟨c1, d1, rfl, rfl, ⟨c2, d2, rfl, rfl, rfl⟩⟩⟩ := h
  exact rfl
theorem kd_api_Fault_mk {M : IM} {x : T_api_Fault} : kd_api_Fault.rc M [(.string x.Op), (.int .i64 x.At), (GV x.Err)] x := by
  exact ⟨_, _, rfl, rfl, ⟨_, _, rfl, rfl, ⟨_, _, rfl, rfl, rfl⟩⟩⟩
theorem kd_api_Fault_flat : kd_api_Fault.Flat := fun M M' cs x h => by obtain rfl := kd_api_Fault_open h; exact kd_api_Fault_mk

abbrev l65 (x : T_api_Fault) : List Value := [(.string x.Op), (.int .i64 x.At), (GV x.Err)]
abbrev a65_ (x : T_api_Fault) : Value := .agg (l65 x).toArray
end Go.Proofs.YtmifmgpfjamdkaaDoor.G
