/- The values of the structs of this program, and what their cells are. Printed by a program of the session (gen). -/
import Derived.Test.YtjgnbbakamellaaGreatDoorKEq
import Derived.Test.YtjgnbbakamellaaGreatDoorKRefl
namespace Go.Proofs.YtjgnbbakamellaaGreatDoor.G
open Go Go.KK

abbrev GV (e : GErr) : Value := e.val 35 98 0
abbrev kdErr : Kd GErr := kdErrOf 35 98 0

structure T_api_Word where
  Broker : Int
  Epoch : Int
  High : Int
  Fence : Bool
  Leave : Bool
instance : Inhabited T_api_Word := ⟨⟨default, default, default, default, default⟩⟩
def kd_api_Word : Kd T_api_Word := Kd.iso (fun x => (x.Broker, x.Epoch, x.High, x.Fence, x.Leave, ())) (Kd.cons (Kd.int .i64) (Kd.cons (Kd.int .i64) (Kd.cons (Kd.int .i64) (Kd.cons Kd.bool (Kd.cons Kd.bool Kd.nil)))))
theorem kd_api_Word_open {M : IM} {cs : List Value} {x : T_api_Word} (h : kd_api_Word.rc M cs x) : cs = [(.int .i64 x.Broker), (.int .i64 x.Epoch), (.int .i64 x.High), (.bool x.Fence), (.bool x.Leave)] := by
  obtain ⟨c0, d0, rfl, rfl, ⟨c1, d1, rfl, rfl, ⟨c2, d2, rfl, rfl, ⟨c3, d3, rfl, rfl, ⟨c4, d4, rfl, rfl, rfl⟩⟩⟩⟩⟩ := h
  exact rfl
theorem kd_api_Word_mk {M : IM} {x : T_api_Word} : kd_api_Word.rc M [(.int .i64 x.Broker), (.int .i64 x.Epoch), (.int .i64 x.High), (.bool x.Fence), (.bool x.Leave)] x := by
  exact ⟨_, _, rfl, rfl, ⟨_, _, rfl, rfl, ⟨_, _, rfl, rfl, ⟨_, _, rfl, rfl, ⟨_, _, rfl, rfl, rfl⟩⟩⟩⟩⟩
theorem kd_api_Word_flat : kd_api_Word.Flat := fun M M' cs x h => by obtain rfl := kd_api_Word_open h; exact kd_api_Word_mk

structure T_api_Request where
  Client : Int
  Serial : Int
  Kind : Int
  Name : ByteArray
  Key : ByteArray
  Value : ByteArray
  Flag : Bool
  Parts : Int
  Replicas : Int
  Part : Int
  Ids : (List Int)
  Broker : Int
  Epoch : Int
  Rack : ByteArray
  Word : T_api_Word
instance : Inhabited T_api_Request := ⟨⟨default, default, default, ⟨#[]⟩, ⟨#[]⟩, ⟨#[]⟩, default, default, default, default, default, default, default, ⟨#[]⟩, default⟩⟩
def kd_api_Request : Kd T_api_Request := Kd.iso (fun x => (x.Client, x.Serial, x.Kind, x.Name, x.Key, x.Value, x.Flag, x.Parts, x.Replicas, x.Part, x.Ids, x.Broker, x.Epoch, x.Rack, x.Word, ())) (Kd.cons (Kd.int .i64) (Kd.cons (Kd.int .i64) (Kd.cons (Kd.int .i64) (Kd.cons Kd.str (Kd.cons Kd.str (Kd.cons Kd.str (Kd.cons Kd.bool (Kd.cons (Kd.int .i64) (Kd.cons (Kd.int .i64) (Kd.cons (Kd.int .i64) (Kd.cons (Kd.slice (Kd.int .i64)) (Kd.cons (Kd.int .i64) (Kd.cons (Kd.int .i64) (Kd.cons Kd.str (Kd.cons kd_api_Word Kd.nil)))))))))))))))
theorem kd_api_Request_open {M : IM} {cs : List Value} {x : T_api_Request} (h : kd_api_Request.rc M cs x) : ∃ vq_10, cs = [(.int .i64 x.Client), (.int .i64 x.Serial), (.int .i64 x.Kind), (.string x.Name), (.string x.Key), (.string x.Value), (.bool x.Flag), (.int .i64 x.Parts), (.int .i64 x.Replicas), (.int .i64 x.Part), vq_10, (.int .i64 x.Broker), (.int .i64 x.Epoch), (.string x.Rack), (.int .i64 x.Word.Broker), (.int .i64 x.Word.Epoch), (.int .i64 x.Word.High), (.bool x.Word.Fence), (.bool x.Word.Leave)] ∧ RS (Kd.int .i64) M vq_10 x.Ids := by
  obtain ⟨c0, d0, rfl, rfl, ⟨c1, d1, rfl, rfl, ⟨c2, d2, rfl, rfl, ⟨c3, d3, rfl, rfl, ⟨c4, d4, rfl, rfl, ⟨c5, d5, rfl, rfl, ⟨c6, d6, rfl, rfl, ⟨c7, d7, rfl, rfl, ⟨c8, d8, rfl, rfl, ⟨c9, d9, rfl, rfl, ⟨c10, d10, rfl, ⟨v10, rfl, k10⟩, ⟨c11, d11, rfl, rfl, ⟨c12, d12, rfl, rfl, ⟨c13, d13, rfl, rfl, ⟨c14, d14, rfl, k14, rfl⟩⟩⟩⟩⟩⟩⟩⟩⟩⟩⟩⟩⟩⟩⟩ := h
  obtain rfl := kd_api_Word_open k14
  exact ⟨v10, rfl, k10⟩
theorem kd_api_Request_mk {M : IM} {x : T_api_Request} {vq_10 : Value} (hq_10 : RS (Kd.int .i64) M vq_10 x.Ids) : kd_api_Request.rc M [(.int .i64 x.Client), (.int .i64 x.Serial), (.int .i64 x.Kind), (.string x.Name), (.string x.Key), (.string x.Value), (.bool x.Flag), (.int .i64 x.Parts), (.int .i64 x.Replicas), (.int .i64 x.Part), vq_10, (.int .i64 x.Broker), (.int .i64 x.Epoch), (.string x.Rack), (.int .i64 x.Word.Broker), (.int .i64 x.Word.Epoch), (.int .i64 x.Word.High), (.bool x.Word.Fence), (.bool x.Word.Leave)] x := by
  exact ⟨_, _, rfl, rfl, ⟨_, _, rfl, rfl, ⟨_, _, rfl, rfl, ⟨_, _, rfl, rfl, ⟨_, _, rfl, rfl, ⟨_, _, rfl, rfl, ⟨_, _, rfl, rfl, ⟨_, _, rfl, rfl, ⟨_, _, rfl, rfl, ⟨_, _, rfl, rfl, ⟨_, _, rfl, ⟨_, rfl, hq_10⟩, ⟨_, _, rfl, rfl, ⟨_, _, rfl, rfl, ⟨_, _, rfl, rfl, ⟨_, _, rfl, kd_api_Word_mk, rfl⟩⟩⟩⟩⟩⟩⟩⟩⟩⟩⟩⟩⟩⟩⟩

structure T_api_Frame where
  Kind : Int
  Body : (List Int)
instance : Inhabited T_api_Frame := ⟨⟨default, default⟩⟩
def kd_api_Frame : Kd T_api_Frame := Kd.iso (fun x => (x.Kind, x.Body, ())) (Kd.cons (Kd.int .i64) (Kd.cons (Kd.slice (Kd.int .u8)) Kd.nil))
theorem kd_api_Frame_open {M : IM} {cs : List Value} {x : T_api_Frame} (h : kd_api_Frame.rc M cs x) : ∃ vq_1, cs = [(.int .i64 x.Kind), vq_1] ∧ RS (Kd.int .u8) M vq_1 x.Body := by
  obtain ⟨c0, d0, rfl, rfl, ⟨c1, d1, rfl, ⟨v1, rfl, k1⟩, rfl⟩⟩ := h
  exact ⟨v1, rfl, k1⟩
theorem kd_api_Frame_mk {M : IM} {x : T_api_Frame} {vq_1 : Value} (hq_1 : RS (Kd.int .u8) M vq_1 x.Body) : kd_api_Frame.rc M [(.int .i64 x.Kind), vq_1] x := by
  exact ⟨_, _, rfl, rfl, ⟨_, _, rfl, ⟨_, rfl, hq_1⟩, rfl⟩⟩

structure T_wire_Reader where
  b : (List Int)
  at_ : Int
  err : GErr
instance : Inhabited T_wire_Reader := ⟨⟨default, default, default⟩⟩
def kd_wire_Reader : Kd T_wire_Reader := Kd.iso (fun x => (x.b, x.at_, x.err, ())) (Kd.cons (Kd.slice (Kd.int .u8)) (Kd.cons (Kd.int .i64) (Kd.cons kdErr Kd.nil)))
theorem kd_wire_Reader_open {M : IM} {cs : List Value} {x : T_wire_Reader} (h : kd_wire_Reader.rc M cs x) : ∃ vq_0, cs = [vq_0, (.int .i64 x.at_), (GV x.err)] ∧ RS (Kd.int .u8) M vq_0 x.b := by
  obtain ⟨c0, d0, rfl, ⟨v0, rfl, k0⟩, ⟨c1, d1, rfl, rfl, ⟨c2, d2, rfl, rfl, rfl⟩⟩⟩ := h
  exact ⟨v0, rfl, k0⟩
theorem kd_wire_Reader_mk {M : IM} {x : T_wire_Reader} {vq_0 : Value} (hq_0 : RS (Kd.int .u8) M vq_0 x.b) : kd_wire_Reader.rc M [vq_0, (.int .i64 x.at_), (GV x.err)] x := by
  exact ⟨_, _, rfl, ⟨_, rfl, hq_0⟩, ⟨_, _, rfl, rfl, ⟨_, _, rfl, rfl, rfl⟩⟩⟩

structure T_api_Told where
  Fenced : Bool
  Leaving : Bool
  Stop : Bool
instance : Inhabited T_api_Told := ⟨⟨default, default, default⟩⟩
def kd_api_Told : Kd T_api_Told := Kd.iso (fun x => (x.Fenced, x.Leaving, x.Stop, ())) (Kd.cons Kd.bool (Kd.cons Kd.bool (Kd.cons Kd.bool Kd.nil)))
theorem kd_api_Told_open {M : IM} {cs : List Value} {x : T_api_Told} (h : kd_api_Told.rc M cs x) : cs = [(.bool x.Fenced), (.bool x.Leaving), (.bool x.Stop)] := by
  obtain ⟨c0, d0, rfl, rfl, ⟨c1, d1, rfl, rfl, ⟨c2, d2, rfl, rfl, rfl⟩⟩⟩ := h
  exact rfl
theorem kd_api_Told_mk {M : IM} {x : T_api_Told} : kd_api_Told.rc M [(.bool x.Fenced), (.bool x.Leaving), (.bool x.Stop)] x := by
  exact ⟨_, _, rfl, rfl, ⟨_, _, rfl, rfl, ⟨_, _, rfl, rfl, rfl⟩⟩⟩
theorem kd_api_Told_flat : kd_api_Told.Flat := fun M M' cs x h => by obtain rfl := kd_api_Told_open h; exact kd_api_Told_mk

structure T_api_Reply where
  Client : Int
  Serial : Int
  Code : Int
  Leader : Int
  Told : T_api_Told
instance : Inhabited T_api_Reply := ⟨⟨default, default, default, default, default⟩⟩
def kd_api_Reply : Kd T_api_Reply := Kd.iso (fun x => (x.Client, x.Serial, x.Code, x.Leader, x.Told, ())) (Kd.cons (Kd.int .i64) (Kd.cons (Kd.int .i64) (Kd.cons (Kd.int .i64) (Kd.cons (Kd.int .i64) (Kd.cons kd_api_Told Kd.nil)))))
theorem kd_api_Reply_open {M : IM} {cs : List Value} {x : T_api_Reply} (h : kd_api_Reply.rc M cs x) : cs = [(.int .i64 x.Client), (.int .i64 x.Serial), (.int .i64 x.Code), (.int .i64 x.Leader), (.bool x.Told.Fenced), (.bool x.Told.Leaving), (.bool x.Told.Stop)] := by
  obtain ⟨c0, d0, rfl, rfl, ⟨c1, d1, rfl, rfl, ⟨c2, d2, rfl, rfl, ⟨c3, d3, rfl, rfl, ⟨c4, d4, rfl, k4, rfl⟩⟩⟩⟩⟩ := h
  obtain rfl := kd_api_Told_open k4
  exact rfl
theorem kd_api_Reply_mk {M : IM} {x : T_api_Reply} : kd_api_Reply.rc M [(.int .i64 x.Client), (.int .i64 x.Serial), (.int .i64 x.Code), (.int .i64 x.Leader), (.bool x.Told.Fenced), (.bool x.Told.Leaving), (.bool x.Told.Stop)] x := by
  exact ⟨_, _, rfl, rfl, ⟨_, _, rfl, rfl, ⟨_, _, rfl, rfl, ⟨_, _, rfl, rfl, ⟨_, _, rfl, kd_api_Told_mk, rfl⟩⟩⟩⟩⟩
theorem kd_api_Reply_flat : kd_api_Reply.Flat := fun M M' cs x h => by obtain rfl := kd_api_Reply_open h; exact kd_api_Reply_mk

structure T_api_Fault where
  Op : ByteArray
  At : Int
  Err : GErr
instance : Inhabited T_api_Fault := ⟨⟨⟨#[]⟩, default, default⟩⟩
def kd_api_Fault : Kd T_api_Fault := Kd.iso (fun x => (x.Op, x.At, x.Err, ())) (Kd.cons Kd.str (Kd.cons (Kd.int .i64) (Kd.cons kdErr Kd.nil)))
theorem kd_api_Fault_open {M : IM} {cs : List Value} {x : T_api_Fault} (h : kd_api_Fault.rc M cs x) : cs = [(.string x.Op), (.int .i64 x.At), (GV x.Err)] := by
  obtain ⟨c0, d0, rfl, rfl, ⟨c1, d1, rfl, rfl, ⟨c2, d2, rfl, rfl, rfl⟩⟩⟩ := h
  exact rfl
theorem kd_api_Fault_mk {M : IM} {x : T_api_Fault} : kd_api_Fault.rc M [(.string x.Op), (.int .i64 x.At), (GV x.Err)] x := by
  exact ⟨_, _, rfl, rfl, ⟨_, _, rfl, rfl, ⟨_, _, rfl, rfl, rfl⟩⟩⟩
theorem kd_api_Fault_flat : kd_api_Fault.Flat := fun M M' cs x h => by obtain rfl := kd_api_Fault_open h; exact kd_api_Fault_mk

structure T_ref02_State where
  At : Int
  Code : Int
  Op : ByteArray
  Where : Int
instance : Inhabited T_ref02_State := ⟨⟨default, default, ⟨#[]⟩, default⟩⟩
def kd_ref02_State : Kd T_ref02_State := Kd.iso (fun x => (x.At, x.Code, x.Op, x.Where, ())) (Kd.cons (Kd.int .i64) (Kd.cons (Kd.int .i64) (Kd.cons Kd.str (Kd.cons (Kd.int .i64) Kd.nil))))
theorem kd_ref02_State_open {M : IM} {cs : List Value} {x : T_ref02_State} (h : kd_ref02_State.rc M cs x) : cs = [(.int .i64 x.At), (.int .i64 x.Code), (.string x.Op), (.int .i64 x.Where)] := by
  obtain ⟨c0, d0, rfl, rfl, ⟨c1, d1, rfl, rfl, ⟨c2, d2, rfl, rfl, ⟨c3, d3, rfl, rfl, rfl⟩⟩⟩⟩ := h
  exact rfl
theorem kd_ref02_State_mk {M : IM} {x : T_ref02_State} : kd_ref02_State.rc M [(.int .i64 x.At), (.int .i64 x.Code), (.string x.Op), (.int .i64 x.Where)] x := by
  exact ⟨_, _, rfl, rfl, ⟨_, _, rfl, rfl, ⟨_, _, rfl, rfl, ⟨_, _, rfl, rfl, rfl⟩⟩⟩⟩
theorem kd_ref02_State_flat : kd_ref02_State.Flat := fun M M' cs x h => by obtain rfl := kd_ref02_State_open h; exact kd_ref02_State_mk

structure T_ref02_Ask where
  Kind : Int
  Most : Int
  Each : Int
instance : Inhabited T_ref02_Ask := ⟨⟨default, default, default⟩⟩
def kd_ref02_Ask : Kd T_ref02_Ask := Kd.iso (fun x => (x.Kind, x.Most, x.Each, ())) (Kd.cons (Kd.int .i64) (Kd.cons (Kd.int .i64) (Kd.cons (Kd.int .i64) Kd.nil)))
theorem kd_ref02_Ask_open {M : IM} {cs : List Value} {x : T_ref02_Ask} (h : kd_ref02_Ask.rc M cs x) : cs = [(.int .i64 x.Kind), (.int .i64 x.Most), (.int .i64 x.Each)] := by
  obtain ⟨c0, d0, rfl, rfl, ⟨c1, d1, rfl, rfl, ⟨c2, d2, rfl, rfl, rfl⟩⟩⟩ := h
  exact rfl
theorem kd_ref02_Ask_mk {M : IM} {x : T_ref02_Ask} : kd_ref02_Ask.rc M [(.int .i64 x.Kind), (.int .i64 x.Most), (.int .i64 x.Each)] x := by
  exact ⟨_, _, rfl, rfl, ⟨_, _, rfl, rfl, ⟨_, _, rfl, rfl, rfl⟩⟩⟩
theorem kd_ref02_Ask_flat : kd_ref02_Ask.Flat := fun M M' cs x h => by obtain rfl := kd_ref02_Ask_open h; exact kd_ref02_Ask_mk

structure T_ref02_Got where
  Num : Int
  Flag : Bool
  Text : (List Int)
  Row : (List Int)
instance : Inhabited T_ref02_Got := ⟨⟨default, default, default, default⟩⟩
def kd_ref02_Got : Kd T_ref02_Got := Kd.iso (fun x => (x.Num, x.Flag, x.Text, x.Row, ())) (Kd.cons (Kd.int .u64) (Kd.cons Kd.bool (Kd.cons (Kd.slice (Kd.int .u8)) (Kd.cons (Kd.slice (Kd.int .i64)) Kd.nil))))
theorem kd_ref02_Got_open {M : IM} {cs : List Value} {x : T_ref02_Got} (h : kd_ref02_Got.rc M cs x) : ∃ vq_2 vq_3, cs = [(.int .u64 x.Num), (.bool x.Flag), vq_2, vq_3] ∧ RS (Kd.int .u8) M vq_2 x.Text ∧ RS (Kd.int .i64) M vq_3 x.Row := by
  obtain ⟨c0, d0, rfl, rfl, ⟨c1, d1, rfl, rfl, ⟨c2, d2, rfl, ⟨v2, rfl, k2⟩, ⟨c3, d3, rfl, ⟨v3, rfl, k3⟩, rfl⟩⟩⟩⟩ := h
  exact ⟨v2, v3, rfl, k2, k3⟩
theorem kd_ref02_Got_mk {M : IM} {x : T_ref02_Got} {vq_2 vq_3 : Value} (hq_2 : RS (Kd.int .u8) M vq_2 x.Text) (hq_3 : RS (Kd.int .i64) M vq_3 x.Row) : kd_ref02_Got.rc M [(.int .u64 x.Num), (.bool x.Flag), vq_2, vq_3] x := by
  exact ⟨_, _, rfl, rfl, ⟨_, _, rfl, rfl, ⟨_, _, rfl, ⟨_, rfl, hq_2⟩, ⟨_, _, rfl, ⟨_, rfl, hq_3⟩, rfl⟩⟩⟩⟩

structure T_ref05_Cursor where
  B : (List Int)
  S : T_ref02_State
instance : Inhabited T_ref05_Cursor := ⟨⟨default, default⟩⟩
def kd_ref05_Cursor : Kd T_ref05_Cursor := Kd.iso (fun x => (x.B, x.S, ())) (Kd.cons (Kd.slice (Kd.int .u8)) (Kd.cons kd_ref02_State Kd.nil))
theorem kd_ref05_Cursor_open {M : IM} {cs : List Value} {x : T_ref05_Cursor} (h : kd_ref05_Cursor.rc M cs x) : ∃ vq_0, cs = [vq_0, (.int .i64 x.S.At), (.int .i64 x.S.Code), (.string x.S.Op), (.int .i64 x.S.Where)] ∧ RS (Kd.int .u8) M vq_0 x.B := by
  obtain ⟨c0, d0, rfl, ⟨v0, rfl, k0⟩, ⟨c1, d1, rfl, k1, rfl⟩⟩ := h
  obtain rfl := kd_ref02_State_open k1
  exact ⟨v0, rfl, k0⟩
theorem kd_ref05_Cursor_mk {M : IM} {x : T_ref05_Cursor} {vq_0 : Value} (hq_0 : RS (Kd.int .u8) M vq_0 x.B) : kd_ref05_Cursor.rc M [vq_0, (.int .i64 x.S.At), (.int .i64 x.S.Code), (.string x.S.Op), (.int .i64 x.S.Where)] x := by
  exact ⟨_, _, rfl, ⟨_, rfl, hq_0⟩, ⟨_, _, rfl, kd_ref02_State_mk, rfl⟩⟩

structure T_ref22_Wrong where
  Op : ByteArray
  At : Int
  Code : Int
instance : Inhabited T_ref22_Wrong := ⟨⟨⟨#[]⟩, default, default⟩⟩
def kd_ref22_Wrong : Kd T_ref22_Wrong := Kd.iso (fun x => (x.Op, x.At, x.Code, ())) (Kd.cons Kd.str (Kd.cons (Kd.int .i64) (Kd.cons (Kd.int .i64) Kd.nil)))
theorem kd_ref22_Wrong_open {M : IM} {cs : List Value} {x : T_ref22_Wrong} (h : kd_ref22_Wrong.rc M cs x) : cs = [(.string x.Op), (.int .i64 x.At), (.int .i64 x.Code)] := by
  obtain ⟨c0, d0, rfl, rfl, ⟨c1, d1, rfl, rfl, ⟨c2, d2, rfl, rfl, rfl⟩⟩⟩ := h
  exact rfl
theorem kd_ref22_Wrong_mk {M : IM} {x : T_ref22_Wrong} : kd_ref22_Wrong.rc M [(.string x.Op), (.int .i64 x.At), (.int .i64 x.Code)] x := by
  exact ⟨_, _, rfl, rfl, ⟨_, _, rfl, rfl, ⟨_, _, rfl, rfl, rfl⟩⟩⟩
theorem kd_ref22_Wrong_flat : kd_ref22_Wrong.Flat := fun M M' cs x h => by obtain rfl := kd_ref22_Wrong_open h; exact kd_ref22_Wrong_mk

abbrev pt (b o : Nat) : Value := .pointer (some ⟨b, o, none⟩)
abbrev l26 (x : T_api_Word) : List Value := [(.int .i64 x.Broker), (.int .i64 x.Epoch), (.int .i64 x.High), (.bool x.Fence), (.bool x.Leave)]
abbrev z26_ : List Value := [(.int .i64 (0 : Int)), (.int .i64 (0 : Int)), (.int .i64 (0 : Int)), (.bool false), (.bool false)]
abbrev a26_ (x : T_api_Word) : Value := .agg (l26 x).toArray
abbrev l28 (x : T_api_Request) (vq_10 : Value) : List Value := [(.int .i64 x.Client), (.int .i64 x.Serial), (.int .i64 x.Kind), (.string x.Name), (.string x.Key), (.string x.Value), (.bool x.Flag), (.int .i64 x.Parts), (.int .i64 x.Replicas), (.int .i64 x.Part), vq_10, (.int .i64 x.Broker), (.int .i64 x.Epoch), (.string x.Rack), (.int .i64 x.Word.Broker), (.int .i64 x.Word.Epoch), (.int .i64 x.Word.High), (.bool x.Word.Fence), (.bool x.Word.Leave)]
abbrev z28_ : List Value := [(.int .i64 (0 : Int)), (.int .i64 (0 : Int)), (.int .i64 (0 : Int)), (.string (⟨#[]⟩ : ByteArray)), (.string (⟨#[]⟩ : ByteArray)), (.string (⟨#[]⟩ : ByteArray)), (.bool false), (.int .i64 (0 : Int)), (.int .i64 (0 : Int)), (.int .i64 (0 : Int)), (.slice none 0 0), (.int .i64 (0 : Int)), (.int .i64 (0 : Int)), (.string (⟨#[]⟩ : ByteArray)), (.int .i64 (0 : Int)), (.int .i64 (0 : Int)), (.int .i64 (0 : Int)), (.bool false), (.bool false)]
abbrev a28_ (x : T_api_Request) (vq_10 : Value) : Value := .agg (l28 x vq_10).toArray
abbrev l100 (x : T_wire_Reader) (vq_0 : Value) : List Value := [vq_0, (.int .i64 x.at_), (GV x.err)]
abbrev a100_ (x : T_wire_Reader) (vq_0 : Value) : Value := .agg (l100 x vq_0).toArray
abbrev l41 (x : T_api_Told) : List Value := [(.bool x.Fenced), (.bool x.Leaving), (.bool x.Stop)]
abbrev a41_ (x : T_api_Told) : Value := .agg (l41 x).toArray
abbrev l43 (x : T_api_Reply) : List Value := [(.int .i64 x.Client), (.int .i64 x.Serial), (.int .i64 x.Code), (.int .i64 x.Leader), (.bool x.Told.Fenced), (.bool x.Told.Leaving), (.bool x.Told.Stop)]
abbrev z43_ : List Value := [(.int .i64 (0 : Int)), (.int .i64 (0 : Int)), (.int .i64 (0 : Int)), (.int .i64 (0 : Int)), (.bool false), (.bool false), (.bool false)]
abbrev a43_ (x : T_api_Reply) : Value := .agg (l43 x).toArray
abbrev l98 (x : T_api_Fault) : List Value := [(.string x.Op), (.int .i64 x.At), (GV x.Err)]
abbrev a98_ (x : T_api_Fault) : Value := .agg (l98 x).toArray
abbrev l67 (x : T_ref02_State) : List Value := [(.int .i64 x.At), (.int .i64 x.Code), (.string x.Op), (.int .i64 x.Where)]
abbrev z67_ : List Value := [(.int .i64 (0 : Int)), (.int .i64 (0 : Int)), (.string (⟨#[]⟩ : ByteArray)), (.int .i64 (0 : Int))]
abbrev a67_ (x : T_ref02_State) : Value := .agg (l67 x).toArray
abbrev l110 (x : T_ref02_Ask) : List Value := [(.int .i64 x.Kind), (.int .i64 x.Most), (.int .i64 x.Each)]
abbrev a110_ (x : T_ref02_Ask) : Value := .agg (l110 x).toArray
abbrev l106 (x : T_ref02_Got) (vq_2 vq_3 : Value) : List Value := [(.int .u64 x.Num), (.bool x.Flag), vq_2, vq_3]
abbrev a106_ (x : T_ref02_Got) (vq_2 vq_3 : Value) : Value := .agg (l106 x vq_2 vq_3).toArray
abbrev l69 (x : T_ref05_Cursor) (vq_0 : Value) : List Value := [vq_0, (.int .i64 x.S.At), (.int .i64 x.S.Code), (.string x.S.Op), (.int .i64 x.S.Where)]
abbrev z69_ : List Value := [(.slice none 0 0), (.int .i64 (0 : Int)), (.int .i64 (0 : Int)), (.string (⟨#[]⟩ : ByteArray)), (.int .i64 (0 : Int))]
abbrev a69_ (x : T_ref05_Cursor) (vq_0 : Value) : Value := .agg (l69 x vq_0).toArray
abbrev l37 (x : T_ref22_Wrong) : List Value := [(.string x.Op), (.int .i64 x.At), (.int .i64 x.Code)]
abbrev a37_ (x : T_ref22_Wrong) : Value := .agg (l37 x).toArray
end Go.Proofs.YtjgnbbakamellaaGreatDoor.G
