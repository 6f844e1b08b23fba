/- The values of the structs of this program, and what their cells are. Printed by a program of the session (gen). -/
import Derived.Test.YtjgnbbakamellaaDoorKEq
import Derived.Test.YtjgnbbakamellaaDoorKRefl
namespace Go.Proofs.YtjgnbbakamellaaDoor.G
open Go Go.KK

abbrev GV (e : GErr) : Value := e.val 47 99 0
abbrev kdErr : Kd GErr := kdErrOf 47 99 0

structure T_api_Word where
  Broker : Int
  Epoch : Int
  High : Int
  Fence : Bool
  Leave : Bool
instance : Inhabited T_api_Word := ⟨⟨default, default, default, default, default⟩⟩
def kd_api_Word : Kd T_api_Word := Kd.iso (fun x => (x.Broker, x.Epoch, x.High, x.Fence, x.Leave, ())) (Kd.cons (Kd.int .i64) (Kd.cons (Kd.int .i64) (Kd.cons (Kd.int .i64) (Kd.cons Kd.bool (Kd.cons Kd.bool Kd.nil)))))
theorem kd_api_Word_open {M : IM} {cs : List Value} {x : T_api_Word} (h : kd_api_Word.rc M cs x) : cs = [(.int .i64 x.Broker), (.int .i64 x.Epoch), (.int .i64 x.High), (.bool x.Fence), (.bool x.Leave)] := by
  obtain ⟨c0, d0, rfl, rfl, ⟨c1, d1, rfl, rfl, ⟨c2, d2, rfl, rfl, ⟨c3, d3, rfl, rfl, ⟨c4, d4, rfl, rfl, rfl⟩⟩⟩⟩⟩ := h
  exact rfl
theorem kd_api_Word_mk {M : IM} {x : T_api_Word} : kd_api_Word.rc M [(.int .i64 x.Broker), (.int .i64 x.Epoch), (.int .i64 x.High), (.bool x.Fence), (.bool x.Leave)] x := by
  exact ⟨_, _, rfl, rfl, ⟨_, _, rfl, rfl, ⟨_, _, rfl, rfl, ⟨_, _, rfl, rfl, ⟨_, _, rfl, rfl, rfl⟩⟩⟩⟩⟩
theorem kd_api_Word_flat : kd_api_Word.Flat := fun M M' cs x h => by obtain rfl := kd_api_Word_open h; exact kd_api_Word_mk

structure T_api_Request where
  Client : Int
  Serial : Int
  Kind : Int
  Name : ByteArray
  Key : ByteArray
  Value : ByteArray
  Flag : Bool
  Parts : Int
  Replicas : Int
  Part : Int
  Ids : (List Int)
  Broker : Int
  Epoch : Int
  Rack : ByteArray
  Word : T_api_Word
instance : Inhabited T_api_Request := ⟨⟨default, default, default, ⟨#[]⟩, ⟨#[]⟩, ⟨#[]⟩, default, default, default, default, default, default, default, ⟨#[]⟩, default⟩⟩
def kd_api_Request : Kd T_api_Request := Kd.iso (fun x => (x.Client, x.Serial, x.Kind, x.Name, x.Key, x.Value, x.Flag, x.Parts, x.Replicas, x.Part, x.Ids, x.Broker, x.Epoch, x.Rack, x.Word, ())) (Kd.cons (Kd.int .i64) (Kd.cons (Kd.int .i64) (Kd.cons (Kd.int .i64) (Kd.cons Kd.str (Kd.cons Kd.str (Kd.cons Kd.str (Kd.cons Kd.bool (Kd.cons (Kd.int .i64) (Kd.cons (Kd.int .i64) (Kd.cons (Kd.int .i64) (Kd.cons (Kd.slice (Kd.int .i64)) (Kd.cons (Kd.int .i64) (Kd.cons (Kd.int .i64) (Kd.cons Kd.str (Kd.cons kd_api_Word Kd.nil)))))))))))))))
theorem kd_api_Request_open {M : IM} {cs : List Value} {x : T_api_Request} (h : kd_api_Request.rc M cs x) : ∃ vq_10, cs = [(.int .i64 x.Client), (.int .i64 x.Serial), (.int .i64 x.Kind), (.string x.Name), (.string x.Key), (.string x.Value), (.bool x.Flag), (.int .i64 x.Parts), (.int .i64 x.Replicas), (.int .i64 x.Part), vq_10, (.int .i64 x.Broker), (.int .i64 x.Epoch), (.string x.Rack), (.int .i64 x.Word.Broker), (.int .i64 x.Word.Epoch), (.int .i64 x.Word.High), (.bool x.Word.Fence), (.bool x.Word.Leave)] ∧ RS (Kd.int .i64) M vq_10 x.Ids := by
  obtain ⟨c0, d0, rfl, rfl, ⟨c1, d1, rfl, rfl, ⟨c2, d2, rfl, rfl, ⟨c3, d3, rfl, rfl, ⟨c4, d4, rfl, rfl, ⟨c5, d5, rfl, rfl, ⟨c6, d6, rfl, rfl, ⟨c7, d7, rfl, rfl, ⟨c8, d8, rfl, rfl, ⟨c9, d9, rfl, rfl, ⟨c10, d10, rfl, ⟨v10, rfl, k10⟩, ⟨c11, d11, rfl, rfl, ⟨c12, d12, rfl, rfl, ⟨c13, d13, rfl, rfl, ⟨c14, d14, rfl, k14, rfl⟩⟩⟩⟩⟩⟩⟩⟩⟩⟩⟩⟩⟩⟩⟩ := h
  obtain rfl := kd_api_Word_open k14
  exact ⟨v10, rfl, k10⟩
theorem kd_api_Request_mk {M : IM} {x : T_api_Request} {vq_10 : Value} (hq_10 : RS (Kd.int .i64) M vq_10 x.Ids) : kd_api_Request.rc M [(.int .i64 x.Client), (.int .i64 x.Serial), (.int .i64 x.Kind), (.string x.Name), (.string x.Key), (.string x.Value), (.bool x.Flag), (.int .i64 x.Parts), (.int .i64 x.Replicas), (.int .i64 x.Part), vq_10, (.int .i64 x.Broker), (.int .i64 x.Epoch), (.string x.Rack), (.int .i64 x.Word.Broker), (.int .i64 x.Word.Epoch), (.int .i64 x.Word.High), (.bool x.Word.Fence), (.bool x.Word.Leave)] x := by
  exact ⟨_, _, rfl, rfl, ⟨_, _, rfl, rfl, ⟨_, _, rfl, rfl, ⟨_, _, rfl, rfl, ⟨_, _, rfl, rfl, ⟨_, _, rfl, rfl, ⟨_, _, rfl, rfl, ⟨_, _, rfl, rfl, ⟨_, _, rfl, rfl, ⟨_, _, rfl, rfl, ⟨_, _, rfl, ⟨_, rfl, hq_10⟩, ⟨_, _, rfl, rfl, ⟨_, _, rfl, rfl, ⟨_, _, rfl, rfl, ⟨_, _, rfl, kd_api_Word_mk, rfl⟩⟩⟩⟩⟩⟩⟩⟩⟩⟩⟩⟩⟩⟩⟩

structure T_api_Frame where
  Kind : Int
  Body : (List Int)
instance : Inhabited T_api_Frame := ⟨⟨default, default⟩⟩
def kd_api_Frame : Kd T_api_Frame := Kd.iso (fun x => (x.Kind, x.Body, ())) (Kd.cons (Kd.int .i64) (Kd.cons (Kd.slice (Kd.int .u8)) Kd.nil))
theorem kd_api_Frame_open {M : IM} {cs : List Value} {x : T_api_Frame} (h : kd_api_Frame.rc M cs x) : ∃ vq_1, cs = [(.int .i64 x.Kind), vq_1] ∧ RS (Kd.int .u8) M vq_1 x.Body := by
  obtain ⟨c0, d0, rfl, rfl, ⟨c1, d1, rfl, ⟨v1, rfl, k1⟩, rfl⟩⟩ := h
  exact ⟨v1, rfl, k1⟩
theorem kd_api_Frame_mk {M : IM} {x : T_api_Frame} {vq_1 : Value} (hq_1 : RS (Kd.int .u8) M vq_1 x.Body) : kd_api_Frame.rc M [(.int .i64 x.Kind), vq_1] x := by
  exact ⟨_, _, rfl, rfl, ⟨_, _, rfl, ⟨_, rfl, hq_1⟩, rfl⟩⟩

structure T_wire_Reader where
  b : (List Int)
  at_ : Int
  err : GErr
instance : Inhabited T_wire_Reader := ⟨⟨default, default, default⟩⟩
def kd_wire_Reader : Kd T_wire_Reader := Kd.iso (fun x => (x.b, x.at_, x.err, ())) (Kd.cons (Kd.slice (Kd.int .u8)) (Kd.cons (Kd.int .i64) (Kd.cons kdErr Kd.nil)))
theorem kd_wire_Reader_open {M : IM} {cs : List Value} {x : T_wire_Reader} (h : kd_wire_Reader.rc M cs x) : ∃ vq_0, cs = [vq_0, (.int .i64 x.at_), (GV x.err)] ∧ RS (Kd.int .u8) M vq_0 x.b := by
  obtain ⟨c0, d0, rfl, ⟨v0, rfl, k0⟩, ⟨c1, d1, rfl, rfl, ⟨c2, d2, rfl, rfl, rfl⟩⟩⟩ := h
  exact ⟨v0, rfl, k0⟩
theorem kd_wire_Reader_mk {M : IM} {x : T_wire_Reader} {vq_0 : Value} (hq_0 : RS (Kd.int .u8) M vq_0 x.b) : kd_wire_Reader.rc M [vq_0, (.int .i64 x.at_), (GV x.err)] x := by
  exact ⟨_, _, rfl, ⟨_, rfl, hq_0⟩, ⟨_, _, rfl, rfl, ⟨_, _, rfl, rfl, rfl⟩⟩⟩

structure T_api_Told where
  Fenced : Bool
  Leaving : Bool
  Stop : Bool
instance : Inhabited T_api_Told := ⟨⟨default, default, default⟩⟩
def kd_api_Told : Kd T_api_Told := Kd.iso (fun x => (x.Fenced, x.Leaving, x.Stop, ())) (Kd.cons Kd.bool (Kd.cons Kd.bool (Kd.cons Kd.bool Kd.nil)))
theorem kd_api_Told_open {M : IM} {cs : List Value} {x : T_api_Told} (h : kd_api_Told.rc M cs x) : cs = [(.bool x.Fenced), (.bool x.Leaving), (.bool x.Stop)] := by
  obtain ⟨c0, d0, rfl, rfl, ⟨c1, d1, rfl, rfl, ⟨c2, d2, rfl, rfl, rfl⟩⟩⟩ := h
  exact rfl
theorem kd_api_Told_mk {M : IM} {x : T_api_Told} : kd_api_Told.rc M [(.bool x.Fenced), (.bool x.Leaving), (.bool x.Stop)] x := by
  exact ⟨_, _, rfl, rfl, ⟨_, _, rfl, rfl, ⟨_, _, rfl, rfl, rfl⟩⟩⟩
theorem kd_api_Told_flat : kd_api_Told.Flat := fun M M' cs x h => by obtain rfl := kd_api_Told_open h; exact kd_api_Told_mk

structure T_api_Reply where
  Client : Int
  Serial : Int
  Code : Int
  Leader : Int
  Told : T_api_Told
instance : Inhabited T_api_Reply := ⟨⟨default, default, default, default, default⟩⟩
def kd_api_Reply : Kd T_api_Reply := Kd.iso (fun x => (x.Client, x.Serial, x.Code, x.Leader, x.Told, ())) (Kd.cons (Kd.int .i64) (Kd.cons (Kd.int .i64) (Kd.cons (Kd.int .i64) (Kd.cons (Kd.int .i64) (Kd.cons kd_api_Told Kd.nil)))))
theorem kd_api_Reply_open {M : IM} {cs : List Value} {x : T_api_Reply} (h : kd_api_Reply.rc M cs x) : cs = [(.int .i64 x.Client), (.int .i64 x.Serial), (.int .i64 x.Code), (.int .i64 x.Leader), (.bool x.Told.Fenced), (.bool x.Told.Leaving), (.bool x.Told.Stop)] := by
  obtain ⟨c0, d0, rfl, rfl, ⟨c1, d1, rfl, rfl, ⟨c2, d2, rfl, rfl, ⟨c3, d3, rfl, rfl, ⟨c4, d4, rfl, k4, rfl⟩⟩⟩⟩⟩ := h
  obtain rfl := kd_api_Told_open k4
  exact rfl
theorem kd_api_Reply_mk {M : IM} {x : T_api_Reply} : kd_api_Reply.rc M [(.int .i64 x.Client), (.int .i64 x.Serial), (.int .i64 x.Code), (.int .i64 x.Leader), (.bool x.Told.Fenced), (.bool x.Told.Leaving), (.bool x.Told.Stop)] x := by
  exact ⟨_, _, rfl, rfl, ⟨_, _, rfl, rfl, ⟨_, _, rfl, rfl, ⟨_, _, rfl, rfl, ⟨_, _, rfl, kd_api_Told_mk, rfl⟩⟩⟩⟩⟩
theorem kd_api_Reply_flat : kd_api_Reply.Flat := fun M M' cs x h => by obtain rfl := kd_api_Reply_open h; exact kd_api_Reply_mk

structure T_api_Fault where
  Op : ByteArray
  At : Int
  Err : GErr
instance : Inhabited T_api_Fault := ⟨⟨⟨#[]⟩, default, default⟩⟩
def kd_api_Fault : Kd T_api_Fault := Kd.iso (fun x => (x.Op, x.At, x.Err, ())) (Kd.cons Kd.str (Kd.cons (Kd.int .i64) (Kd.cons kdErr Kd.nil)))
theorem kd_api_Fault_open {M : IM} {cs : List Value} {x : T_api_Fault} (h : kd_api_Fault.rc M cs x) : cs = [(.string x.Op), (.int .i64 x.At), (GV x.Err)] := by
  obtain ⟨c0, d0, rfl, rfl, ⟨c1, d1, rfl, rfl, ⟨c2, d2, rfl, rfl, rfl⟩⟩⟩ := h
  exact rfl
theorem kd_api_Fault_mk {M : IM} {x : T_api_Fault} : kd_api_Fault.rc M [(.string x.Op), (.int .i64 x.At), (GV x.Err)] x := by
  exact ⟨_, _, rfl, rfl, ⟨_, _, rfl, rfl, ⟨_, _, rfl, rfl, rfl⟩⟩⟩
theorem kd_api_Fault_flat : kd_api_Fault.Flat := fun M M' cs x h => by obtain rfl := kd_api_Fault_open h; exact kd_api_Fault_mk

structure T_ref22_Wrong where
  Op : ByteArray
  At : Int
  Code : Int
instance : Inhabited T_ref22_Wrong := ⟨⟨⟨#[]⟩, default, default⟩⟩
def kd_ref22_Wrong : Kd T_ref22_Wrong := Kd.iso (fun x => (x.Op, x.At, x.Code, ())) (Kd.cons Kd.str (Kd.cons (Kd.int .i64) (Kd.cons (Kd.int .i64) Kd.nil)))
theorem kd_ref22_Wrong_open {M : IM} {cs : List Value} {x : T_ref22_Wrong} (h : kd_ref22_Wrong.rc M cs x) : cs = [(.string x.Op), (.int .i64 x.At), (.int .i64 x.Code)] := by
  obtain ⟨c0, d0, rfl, rfl, ⟨c1, d1, rfl, rfl, ⟨c2, d2, rfl, rfl, rfl⟩⟩⟩ := h
  exact rfl
theorem kd_ref22_Wrong_mk {M : IM} {x : T_ref22_Wrong} : kd_ref22_Wrong.rc M [(.string x.Op), (.int .i64 x.At), (.int .i64 x.Code)] x := by
  exact ⟨_, _, rfl, rfl, ⟨_, _, rfl, rfl, ⟨_, _, rfl, rfl, rfl⟩⟩⟩
theorem kd_ref22_Wrong_flat : kd_ref22_Wrong.Flat := fun M M' cs x h => by obtain rfl := kd_ref22_Wrong_open h; exact kd_ref22_Wrong_mk

abbrev l66 (x : T_api_Word) : List Value := [(.int .i64 x.Broker), (.int .i64 x.Epoch), (.int .i64 x.High), (.bool x.Fence), (.bool x.Leave)]
abbrev z66_ : List Value := [(.int .i64 (0 : Int)), (.int .i64 (0 : Int)), (.int .i64 (0 : Int)), (.bool false), (.bool false)]
abbrev a66_ (x : T_api_Word) : Value := .agg (l66 x).toArray
abbrev l68 (x : T_api_Request) (vq_10 : Value) : List Value := [(.int .i64 x.Client), (.int .i64 x.Serial), (.int .i64 x.Kind), (.string x.Name), (.string x.Key), (.string x.Value), (.bool x.Flag), (.int .i64 x.Parts), (.int .i64 x.Replicas), (.int .i64 x.Part), vq_10, (.int .i64 x.Broker), (.int .i64 x.Epoch), (.string x.Rack), (.int .i64 x.Word.Broker), (.int .i64 x.Word.Epoch), (.int .i64 x.Word.High), (.bool x.Word.Fence), (.bool x.Word.Leave)]
abbrev z68_ : List Value := [(.int .i64 (0 : Int)), (.int .i64 (0 : Int)), (.int .i64 (0 : Int)), (.string (⟨#[]⟩ : ByteArray)), (.string (⟨#[]⟩ : ByteArray)), (.string (⟨#[]⟩ : ByteArray)), (.bool false), (.int .i64 (0 : Int)), (.int .i64 (0 : Int)), (.int .i64 (0 : Int)), (.slice none 0 0), (.int .i64 (0 : Int)), (.int .i64 (0 : Int)), (.string (⟨#[]⟩ : ByteArray)), (.int .i64 (0 : Int)), (.int .i64 (0 : Int)), (.int .i64 (0 : Int)), (.bool false), (.bool false)]
abbrev a68_ (x : T_api_Request) (vq_10 : Value) : Value := .agg (l68 x vq_10).toArray
abbrev l174 (x : T_wire_Reader) (vq_0 : Value) : List Value := [vq_0, (.int .i64 x.at_), (GV x.err)]
abbrev a174_ (x : T_wire_Reader) (vq_0 : Value) : Value := .agg (l174 x vq_0).toArray
abbrev l70 (x : T_api_Told) : List Value := [(.bool x.Fenced), (.bool x.Leaving), (.bool x.Stop)]
abbrev a70_ (x : T_api_Told) : Value := .agg (l70 x).toArray
abbrev l72 (x : T_api_Reply) : List Value := [(.int .i64 x.Client), (.int .i64 x.Serial), (.int .i64 x.Code), (.int .i64 x.Leader), (.bool x.Told.Fenced), (.bool x.Told.Leaving), (.bool x.Told.Stop)]
abbrev z72_ : List Value := [(.int .i64 (0 : Int)), (.int .i64 (0 : Int)), (.int .i64 (0 : Int)), (.int .i64 (0 : Int)), (.bool false), (.bool false), (.bool false)]
abbrev a72_ (x : T_api_Reply) : Value := .agg (l72 x).toArray
abbrev l99 (x : T_api_Fault) : List Value := [(.string x.Op), (.int .i64 x.At), (GV x.Err)]
abbrev a99_ (x : T_api_Fault) : Value := .agg (l99 x).toArray
abbrev l77 (x : T_ref22_Wrong) : List Value := [(.string x.Op), (.int .i64 x.At), (.int .i64 x.Code)]
abbrev a77_ (x : T_ref22_Wrong) : Value := .agg (l77 x).toArray
end Go.Proofs.YtjgnbbakamellaaDoor.G
