/- The values of the structs of this program, and what their cells are. Printed by a program of the session (gen). -/
import Derived.Test.YtjiffdgidodebaaDoorKEq
import Derived.Test.YtjiffdgidodebaaDoorKRefl
namespace Go.Proofs.YtjiffdgidodebaaDoor.G
open Go Go.KK

abbrev GV (e : GErr) : Value := e.val 47 89 0
abbrev kdErr : Kd GErr := kdErrOf 47 89 0

structure T_api_Frame where
  Kind : Int
  Body : (List Int)
instance : Inhabited T_api_Frame := ⟨⟨default, default⟩⟩
def kd_api_Frame : Kd T_api_Frame := Kd.iso (fun x => (x.Kind, x.Body, ())) (Kd.cons (Kd.int .i64) (Kd.cons (Kd.slice (Kd.int .u8)) Kd.nil))
theorem kd_api_Frame_open {M : IM} {cs : List Value} {x : T_api_Frame} (h : kd_api_Frame.rc M cs x) : ∃ vq_1, cs = [(.int .i64 x.Kind), vq_1] ∧ RS (Kd.int .u8) M vq_1 x.Body := by
  obtain ⟨c0, d0, rfl, rfl, ⟨c1, d1, rfl, ⟨v1, rfl, k1⟩, rfl⟩⟩ := h
  exact ⟨v1, rfl, k1⟩
theorem kd_api_Frame_mk {M : IM} {x : T_api_Frame} {vq_1 : Value} (hq_1 : RS (Kd.int .u8) M vq_1 x.Body) : kd_api_Frame.rc M [(.int .i64 x.Kind), vq_1] x := by
  exact ⟨_, _, rfl, rfl, ⟨_, _, rfl, ⟨_, rfl, hq_1⟩, rfl⟩⟩

structure T_wire_Reader where
  b : (List Int)
  at_ : Int
  err : GErr
instance : Inhabited T_wire_Reader := ⟨⟨default, default, default⟩⟩
def kd_wire_Reader : Kd T_wire_Reader := Kd.iso (fun x => (x.b, x.at_, x.err, ())) (Kd.cons (Kd.slice (Kd.int .u8)) (Kd.cons (Kd.int .i64) (Kd.cons kdErr Kd.nil)))
theorem kd_wire_Reader_open {M : IM} {cs : List Value} {x : T_wire_Reader} (h : kd_wire_Reader.rc M cs x) : ∃ vq_0, cs = [vq_0, (.int .i64 x.at_), (GV x.err)] ∧ RS (Kd.int .u8) M vq_0 x.b := by
  obtain ⟨c0, d0, rfl, ⟨v0, rfl, k0⟩, ⟨c1, d1, rfl, rfl, ⟨c2, d2, rfl, rfl, rfl⟩⟩⟩ := h
  exact ⟨v0, rfl, k0⟩
theorem kd_wire_Reader_mk {M : IM} {x : T_wire_Reader} {vq_0 : Value} (hq_0 : RS (Kd.int .u8) M vq_0 x.b) : kd_wire_Reader.rc M [vq_0, (.int .i64 x.at_), (GV x.err)] x := by
  exact ⟨_, _, rfl, ⟨_, rfl, hq_0⟩, ⟨_, _, rfl, rfl, ⟨_, _, rfl, rfl, rfl⟩⟩⟩

structure T_api_Fault where
  Op : ByteArray
  At : Int
  Err : GErr
instance : Inhabited T_api_Fault := ⟨⟨⟨#[]⟩, default, default⟩⟩
def kd_api_Fault : Kd T_api_Fault := Kd.iso (fun x => (x.Op, x.At, x.Err, ())) (Kd.cons Kd.str (Kd.cons (Kd.int .i64) (Kd.cons kdErr Kd.nil)))
theorem kd_api_Fault_open {M : IM} {cs : List Value} {x : T_api_Fault} (h : kd_api_Fault.rc M cs x) : cs = [(.string x.Op), (.int .i64 x.At), (GV x.Err)] := by
  obtain ⟨c0, d0, rfl, rfl, ⟨c1, d1, rfl, rfl, ⟨c2, d2, rfl, rfl, rfl⟩⟩⟩ := h
  exact rfl
theorem kd_api_Fault_mk {M : IM} {x : T_api_Fault} : kd_api_Fault.rc M [(.string x.Op), (.int .i64 x.At), (GV x.Err)] x := by
  exact ⟨_, _, rfl, rfl, ⟨_, _, rfl, rfl, ⟨_, _, rfl, rfl, rfl⟩⟩⟩
theorem kd_api_Fault_flat : kd_api_Fault.Flat := fun M M' cs x h => by obtain rfl := kd_api_Fault_open h; exact kd_api_Fault_mk

structure T_frame_Stream where
  b : (List Int)
  gone : Int
  err : GErr
instance : Inhabited T_frame_Stream := ⟨⟨default, default, default⟩⟩
def kd_frame_Stream : Kd T_frame_Stream := Kd.iso (fun x => (x.b, x.gone, x.err, ())) (Kd.cons (Kd.slice (Kd.int .u8)) (Kd.cons (Kd.int .i64) (Kd.cons kdErr Kd.nil)))
theorem kd_frame_Stream_open {M : IM} {cs : List Value} {x : T_frame_Stream} (h : kd_frame_Stream.rc M cs x) : ∃ vq_0, cs = [vq_0, (.int .i64 x.gone), (GV x.err)] ∧ RS (Kd.int .u8) M vq_0 x.b := by
  obtain ⟨c0, d0, rfl, ⟨v0, rfl, k0⟩, ⟨c1, d1, rfl, rfl, ⟨c2, d2, rfl, rfl, rfl⟩⟩⟩ := h
  exact ⟨v0, rfl, k0⟩
theorem kd_frame_Stream_mk {M : IM} {x : T_frame_Stream} {vq_0 : Value} (hq_0 : RS (Kd.int .u8) M vq_0 x.b) : kd_frame_Stream.rc M [vq_0, (.int .i64 x.gone), (GV x.err)] x := by
  exact ⟨_, _, rfl, ⟨_, rfl, hq_0⟩, ⟨_, _, rfl, rfl, ⟨_, _, rfl, rfl, rfl⟩⟩⟩

structure T_ref02_State where
  At : Int
  Code : Int
  Op : ByteArray
  Where : Int
instance : Inhabited T_ref02_State := ⟨⟨default, default, ⟨#[]⟩, default⟩⟩
def kd_ref02_State : Kd T_ref02_State := Kd.iso (fun x => (x.At, x.Code, x.Op, x.Where, ())) (Kd.cons (Kd.int .i64) (Kd.cons (Kd.int .i64) (Kd.cons Kd.str (Kd.cons (Kd.int .i64) Kd.nil))))
theorem kd_ref02_State_open {M : IM} {cs : List Value} {x : T_ref02_State} (h : kd_ref02_State.rc M cs x) : cs = [(.int .i64 x.At), (.int .i64 x.Code), (.string x.Op), (.int .i64 x.Where)] := by
  obtain ⟨c0, d0, rfl, rfl, ⟨c1, d1, rfl, rfl, ⟨c2, d2, rfl, rfl, ⟨c3, d3, rfl, rfl, rfl⟩⟩⟩⟩ := h
  exact rfl
theorem kd_ref02_State_mk {M : IM} {x : T_ref02_State} : kd_ref02_State.rc M [(.int .i64 x.At), (.int .i64 x.Code), (.string x.Op), (.int .i64 x.Where)] x := by
  exact ⟨_, _, rfl, rfl, ⟨_, _, rfl, rfl, ⟨_, _, rfl, rfl, ⟨_, _, rfl, rfl, rfl⟩⟩⟩⟩
theorem kd_ref02_State_flat : kd_ref02_State.Flat := fun M M' cs x h => by obtain rfl := kd_ref02_State_open h; exact kd_ref02_State_mk

structure T_ref02_Ask where
  Kind : Int
  Most : Int
  Each : Int
instance : Inhabited T_ref02_Ask := ⟨⟨default, default, default⟩⟩
def kd_ref02_Ask : Kd T_ref02_Ask := Kd.iso (fun x => (x.Kind, x.Most, x.Each, ())) (Kd.cons (Kd.int .i64) (Kd.cons (Kd.int .i64) (Kd.cons (Kd.int .i64) Kd.nil)))
theorem kd_ref02_Ask_open {M : IM} {cs : List Value} {x : T_ref02_Ask} (h : kd_ref02_Ask.rc M cs x) : cs = [(.int .i64 x.Kind), (.int .i64 x.Most), (.int .i64 x.Each)] := by
  obtain ⟨c0, d0, rfl, rfl, ⟨c1, d1, rfl, rfl, ⟨c2, d2, rfl, rfl, rfl⟩⟩⟩ := h
  exact rfl
theorem kd_ref02_Ask_mk {M : IM} {x : T_ref02_Ask} : kd_ref02_Ask.rc M [(.int .i64 x.Kind), (.int .i64 x.Most), (.int .i64 x.Each)] x := by
  exact ⟨_, _, rfl, rfl, ⟨_, _, rfl, rfl, ⟨_, _, rfl, rfl, rfl⟩⟩⟩
theorem kd_ref02_Ask_flat : kd_ref02_Ask.Flat := fun M M' cs x h => by obtain rfl := kd_ref02_Ask_open h; exact kd_ref02_Ask_mk

structure T_ref02_Got where
  Num : Int
  Flag : Bool
  Text : (List Int)
  Row : (List Int)
instance : Inhabited T_ref02_Got := ⟨⟨default, default, default, default⟩⟩
def kd_ref02_Got : Kd T_ref02_Got := Kd.iso (fun x => (x.Num, x.Flag, x.Text, x.Row, ())) (Kd.cons (Kd.int .u64) (Kd.cons Kd.bool (Kd.cons (Kd.slice (Kd.int .u8)) (Kd.cons (Kd.slice (Kd.int .i64)) Kd.nil))))
theorem kd_ref02_Got_open {M : IM} {cs : List Value} {x : T_ref02_Got} (h : kd_ref02_Got.rc M cs x) : ∃ vq_2 vq_3, cs = [(.int .u64 x.Num), (.bool x.Flag), vq_2, vq_3] ∧ RS (Kd.int .u8) M vq_2 x.Text ∧ RS (Kd.int .i64) M vq_3 x.Row := by
  obtain ⟨c0, d0, rfl, rfl, ⟨c1, d1, rfl, rfl, ⟨c2, d2, rfl, ⟨v2, rfl, k2⟩, ⟨c3, d3, rfl, ⟨v3, rfl, k3⟩, rfl⟩⟩⟩⟩ := h
  exact ⟨v2, v3, rfl, k2, k3⟩
theorem kd_ref02_Got_mk {M : IM} {x : T_ref02_Got} {vq_2 vq_3 : Value} (hq_2 : RS (Kd.int .u8) M vq_2 x.Text) (hq_3 : RS (Kd.int .i64) M vq_3 x.Row) : kd_ref02_Got.rc M [(.int .u64 x.Num), (.bool x.Flag), vq_2, vq_3] x := by
  exact ⟨_, _, rfl, rfl, ⟨_, _, rfl, rfl, ⟨_, _, rfl, ⟨_, rfl, hq_2⟩, ⟨_, _, rfl, ⟨_, rfl, hq_3⟩, rfl⟩⟩⟩⟩

structure T_ref04_Found where
  F : T_api_Frame
  Size : Int
  Code : Int
  Op : ByteArray
  At : Int
instance : Inhabited T_ref04_Found := ⟨⟨default, default, default, ⟨#[]⟩, default⟩⟩
def kd_ref04_Found : Kd T_ref04_Found := Kd.iso (fun x => (x.F, x.Size, x.Code, x.Op, x.At, ())) (Kd.cons kd_api_Frame (Kd.cons (Kd.int .i64) (Kd.cons (Kd.int .i64) (Kd.cons Kd.str (Kd.cons (Kd.int .i64) Kd.nil)))))
theorem kd_ref04_Found_open {M : IM} {cs : List Value} {x : T_ref04_Found} (h : kd_ref04_Found.rc M cs x) : ∃ vq_0_1, cs = [(.int .i64 x.F.Kind), vq_0_1, (.int .i64 x.Size), (.int .i64 x.Code), (.string x.Op), (.int .i64 x.At)] ∧ RS (Kd.int .u8) M vq_0_1 x.F.Body := by
  obtain ⟨c0, d0, rfl, k0, ⟨c1, d1, rfl, rfl, ⟨c2, d2, rfl, rfl, ⟨c3, d3, rfl, rfl, ⟨c4, d4, rfl, rfl, rfl⟩⟩⟩⟩⟩ := h
  obtain ⟨v0_0, rfl, k0_0⟩ := kd_api_Frame_open k0
  exact ⟨v0_0, rfl, k0_0⟩
theorem kd_ref04_Found_mk {M : IM} {x : T_ref04_Found} {vq_0_1 : Value} (hq_0_1 : RS (Kd.int .u8) M vq_0_1 x.F.Body) : kd_ref04_Found.rc M [(.int .i64 x.F.Kind), vq_0_1, (.int .i64 x.Size), (.int .i64 x.Code), (.string x.Op), (.int .i64 x.At)] x := by
  exact ⟨_, _, rfl, kd_api_Frame_mk hq_0_1, ⟨_, _, rfl, rfl, ⟨_, _, rfl, rfl, ⟨_, _, rfl, rfl, ⟨_, _, rfl, rfl, rfl⟩⟩⟩⟩⟩

abbrev pt (b o : Nat) : Value := .pointer (some ⟨b, o, none⟩)
abbrev l151 (x : T_wire_Reader) (vq_0 : Value) : List Value := [vq_0, (.int .i64 x.at_), (GV x.err)]
abbrev a151_ (x : T_wire_Reader) (vq_0 : Value) : Value := .agg (l151 x vq_0).toArray
abbrev l89 (x : T_api_Fault) : List Value := [(.string x.Op), (.int .i64 x.At), (GV x.Err)]
abbrev a89_ (x : T_api_Fault) : Value := .agg (l89 x).toArray
abbrev l33 (x : T_frame_Stream) (vq_0 : Value) : List Value := [vq_0, (.int .i64 x.gone), (GV x.err)]
abbrev a33_ (x : T_frame_Stream) (vq_0 : Value) : Value := .agg (l33 x vq_0).toArray
abbrev l94 (x : T_ref02_State) : List Value := [(.int .i64 x.At), (.int .i64 x.Code), (.string x.Op), (.int .i64 x.Where)]
abbrev z94_ : List Value := [(.int .i64 (0 : Int)), (.int .i64 (0 : Int)), (.string (⟨#[]⟩ : ByteArray)), (.int .i64 (0 : Int))]
abbrev a94_ (x : T_ref02_State) : Value := .agg (l94 x).toArray
abbrev l101 (x : T_ref02_Ask) : List Value := [(.int .i64 x.Kind), (.int .i64 x.Most), (.int .i64 x.Each)]
abbrev a101_ (x : T_ref02_Ask) : Value := .agg (l101 x).toArray
abbrev l97 (x : T_ref02_Got) (vq_2 vq_3 : Value) : List Value := [(.int .u64 x.Num), (.bool x.Flag), vq_2, vq_3]
abbrev a97_ (x : T_ref02_Got) (vq_2 vq_3 : Value) : Value := .agg (l97 x vq_2 vq_3).toArray
abbrev l55 (x : T_ref04_Found) (vq_0_1 : Value) : List Value := [(.int .i64 x.F.Kind), vq_0_1, (.int .i64 x.Size), (.int .i64 x.Code), (.string x.Op), (.int .i64 x.At)]
abbrev z55_ : List Value := [(.int .i64 (0 : Int)), (.slice none 0 0), (.int .i64 (0 : Int)), (.int .i64 (0 : Int)), (.string (⟨#[]⟩ : ByteArray)), (.int .i64 (0 : Int))]
abbrev a55_ (x : T_ref04_Found) (vq_0_1 : Value) : Value := .agg (l55 x vq_0_1).toArray
end Go.Proofs.YtjiffdgidodebaaDoor.G
