/- The values of the structs of this program, and what their cells are. Printed by a program of the session (gen). -/
import Derived.Test.YtpcbipcdfccnnaaGreatDoorKEq
import Derived.Test.YtpcbipcdfccnnaaGreatDoorKRefl
namespace Go.Proofs.YtpcbipcdfccnnaaGreatDoor.G
open Go Go.KK
abbrev GV (e:GErr):Value:=e.val 34 114 0
abbrev kdErr:Kd GErr:=kdErrOf 34 114 0
structure T_api_Broker where
 Id:Int
 Epoch:Int
 Rack:ByteArray
 Fenced:Bool
 Leaving:Bool
instance:Inhabited T_api_Broker:=⟨⟨default,default,⟨#[]⟩,default,default⟩⟩
def kd_api_Broker:Kd T_api_Broker:=Kd.iso (fun x=>(x.Id,x.Epoch,x.Rack,x.Fenced,x.Leaving,())) (Kd.cons (Kd.int .i64) (Kd.cons (Kd.int .i64) (Kd.cons Kd.str (Kd.cons Kd.bool (Kd.cons Kd.bool Kd.nil)))))
theorem kd_api_Broker_open {M:IM}{cs:List Value}{x:T_api_Broker}(h:kd_api_Broker.rc M cs x):cs=[(.int .i64 x.Id),(.int .i64 x.Epoch),(.string x.Rack),(.bool x.Fenced),(.bool x.Leaving)]:=by
 obtain ⟨c0,d0,rfl,rfl,⟨c1,d1,rfl,rfl,⟨c2,d2,rfl,rfl,⟨c3,d3,rfl,rfl,⟨c4,d4,rfl,rfl,rfl⟩⟩⟩⟩⟩:=h
 exact rfl
theorem kd_api_Broker_mk {M:IM}{x:T_api_Broker}:kd_api_Broker.rc M [(.int .i64 x.Id),(.int .i64 x.Epoch),(.string x.Rack),(.bool x.Fenced),(.bool x.Leaving)] x:=by
 exact⟨_,_,rfl,rfl,⟨_,_,rfl,rfl,⟨_,_,rfl,rfl,⟨_,_,rfl,rfl,⟨_,_,rfl,rfl,rfl⟩⟩⟩⟩⟩
theorem kd_api_Broker_flat:kd_api_Broker.Flat:=fun M M' cs x h=>by obtain rfl:=kd_api_Broker_open h;exact kd_api_Broker_mk
structure T_api_Part where
 Ids:(List Int)
 Isr:(List Int)
 Leader:Int
 Epoch:Int
 Add:(List Int)
 Drop:(List Int)
instance:Inhabited T_api_Part:=⟨⟨default,default,default,default,default,default⟩⟩
def kd_api_Part:Kd T_api_Part:=Kd.iso (fun x=>(x.Ids,x.Isr,x.Leader,x.Epoch,x.Add,x.Drop,())) (Kd.cons (Kd.slice (Kd.int .i64)) (Kd.cons (Kd.slice (Kd.int .i64)) (Kd.cons (Kd.int .i64) (Kd.cons (Kd.int .i64) (Kd.cons (Kd.slice (Kd.int .i64)) (Kd.cons (Kd.slice (Kd.int .i64)) Kd.nil))))))
theorem kd_api_Part_open {M:IM}{cs:List Value}{x:T_api_Part}(h:kd_api_Part.rc M cs x):∃ vq_0 vq_1 vq_4 vq_5,cs=[vq_0,vq_1,(.int .i64 x.Leader),(.int .i64 x.Epoch),vq_4,vq_5]∧RS (Kd.int .i64) M vq_0 x.Ids∧RS (Kd.int .i64) M vq_1 x.Isr∧RS (Kd.int .i64) M vq_4 x.Add∧RS (Kd.int .i64) M vq_5 x.Drop:=by
 obtain ⟨c0,d0,rfl,⟨v0,rfl,k0⟩,⟨c1,d1,rfl,⟨v1,rfl,k1⟩,⟨c2,d2,rfl,rfl,⟨c3,d3,rfl,rfl,⟨c4,d4,rfl,⟨v4,rfl,k4⟩,⟨c5,d5,rfl,⟨v5,rfl,k5⟩,rfl⟩⟩⟩⟩⟩⟩:=h
 exact⟨v0,v1,v4,v5,rfl,k0,k1,k4,k5⟩
theorem kd_api_Part_mk {M:IM}{x:T_api_Part}{vq_0 vq_1 vq_4 vq_5:Value}(hq_0:RS (Kd.int .i64) M vq_0 x.Ids) (hq_1:RS (Kd.int .i64) M vq_1 x.Isr) (hq_4:RS (Kd.int .i64) M vq_4 x.Add) (hq_5:RS (Kd.int .i64) M vq_5 x.Drop):kd_api_Part.rc M [vq_0,vq_1,(.int .i64 x.Leader),(.int .i64 x.Epoch),vq_4,vq_5] x:=by
 exact⟨_,_,rfl,⟨_,rfl,hq_0⟩,⟨_,_,rfl,⟨_,rfl,hq_1⟩,⟨_,_,rfl,rfl,⟨_,_,rfl,rfl,⟨_,_,rfl,⟨_,rfl,hq_4⟩,⟨_,_,rfl,⟨_,rfl,hq_5⟩,rfl⟩⟩⟩⟩⟩⟩
structure T_api_Topic where
 Id:Int
 Name:ByteArray
 Parts:(List T_api_Part)
instance:Inhabited T_api_Topic:=⟨⟨default,⟨#[]⟩,default⟩⟩
def kd_api_Topic:Kd T_api_Topic:=Kd.iso (fun x=>(x.Id,x.Name,x.Parts,())) (Kd.cons (Kd.int .i64) (Kd.cons Kd.str (Kd.cons (Kd.slice kd_api_Part) Kd.nil)))
theorem kd_api_Topic_open {M:IM}{cs:List Value}{x:T_api_Topic}(h:kd_api_Topic.rc M cs x):∃ vq_2,cs=[(.int .i64 x.Id),(.string x.Name),vq_2]∧RS kd_api_Part M vq_2 x.Parts:=by
 obtain ⟨c0,d0,rfl,rfl,⟨c1,d1,rfl,rfl,⟨c2,d2,rfl,⟨v2,rfl,k2⟩,rfl⟩⟩⟩:=h
 exact⟨v2,rfl,k2⟩
theorem kd_api_Topic_mk {M:IM}{x:T_api_Topic}{vq_2:Value}(hq_2:RS kd_api_Part M vq_2 x.Parts):kd_api_Topic.rc M [(.int .i64 x.Id),(.string x.Name),vq_2] x:=by
 exact⟨_,_,rfl,rfl,⟨_,_,rfl,rfl,⟨_,_,rfl,⟨_,rfl,hq_2⟩,rfl⟩⟩⟩
structure T_api_Config where
 Topic:Int
 Key:ByteArray
 Value:ByteArray
instance:Inhabited T_api_Config:=⟨⟨default,⟨#[]⟩,⟨#[]⟩⟩⟩
def kd_api_Config:Kd T_api_Config:=Kd.iso (fun x=>(x.Topic,x.Key,x.Value,())) (Kd.cons (Kd.int .i64) (Kd.cons Kd.str (Kd.cons Kd.str Kd.nil)))
theorem kd_api_Config_open {M:IM}{cs:List Value}{x:T_api_Config}(h:kd_api_Config.rc M cs x):cs=[(.int .i64 x.Topic),(.string x.Key),(.string x.Value)]:=by
 obtain ⟨c0,d0,rfl,rfl,⟨c1,d1,rfl,rfl,⟨c2,d2,rfl,rfl,rfl⟩⟩⟩:=h
 exact rfl
theorem kd_api_Config_mk {M:IM}{x:T_api_Config}:kd_api_Config.rc M [(.int .i64 x.Topic),(.string x.Key),(.string x.Value)] x:=by
 exact⟨_,_,rfl,rfl,⟨_,_,rfl,rfl,⟨_,_,rfl,rfl,rfl⟩⟩⟩
theorem kd_api_Config_flat:kd_api_Config.Flat:=fun M M' cs x h=>by obtain rfl:=kd_api_Config_open h;exact kd_api_Config_mk
structure T_api_Record where
 Kind:Int
 Broker:Int
 Epoch:Int
 Topic:Int
 Part:Int
 Leader:Int
 Client:Int
 Serial:Int
 Code:Int
 Flag:Bool
 Name:ByteArray
 Key:ByteArray
 Value:ByteArray
 Rack:ByteArray
 Ids:(List Int)
 Isr:(List Int)
 Add:(List Int)
 Drop:(List Int)
instance:Inhabited T_api_Record:=⟨⟨default,default,default,default,default,default,default,default,default,default,⟨#[]⟩,⟨#[]⟩,⟨#[]⟩,⟨#[]⟩,default,default,default,default⟩⟩
def kd_api_Record:Kd T_api_Record:=Kd.iso (fun x=>(x.Kind,x.Broker,x.Epoch,x.Topic,x.Part,x.Leader,x.Client,x.Serial,x.Code,x.Flag,x.Name,x.Key,x.Value,x.Rack,x.Ids,x.Isr,x.Add,x.Drop,())) (Kd.cons (Kd.int .i64) (Kd.cons (Kd.int .i64) (Kd.cons (Kd.int .i64) (Kd.cons (Kd.int .i64) (Kd.cons (Kd.int .i64) (Kd.cons (Kd.int .i64) (Kd.cons (Kd.int .i64) (Kd.cons (Kd.int .i64) (Kd.cons (Kd.int .i64) (Kd.cons Kd.bool (Kd.cons Kd.str (Kd.cons Kd.str (Kd.cons Kd.str (Kd.cons Kd.str (Kd.cons (Kd.slice (Kd.int .i64)) (Kd.cons (Kd.slice (Kd.int .i64)) (Kd.cons (Kd.slice (Kd.int .i64)) (Kd.cons (Kd.slice (Kd.int .i64)) Kd.nil))))))))))))))))))
theorem kd_api_Record_open {M:IM}{cs:List Value}{x:T_api_Record}(h:kd_api_Record.rc M cs x):∃ vq_14 vq_15 vq_16 vq_17,cs=[(.int .i64 x.Kind),(.int .i64 x.Broker),(.int .i64 x.Epoch),(.int .i64 x.Topic),(.int .i64 x.Part),(.int .i64 x.Leader),(.int .i64 x.Client),(.int .i64 x.Serial),(.int .i64 x.Code),(.bool x.Flag),(.string x.Name),(.string x.Key),(.string x.Value),(.string x.Rack),vq_14,vq_15,vq_16,vq_17]∧RS (Kd.int .i64) M vq_14 x.Ids∧RS (Kd.int .i64) M vq_15 x.Isr∧RS (Kd.int .i64) M vq_16 x.Add∧RS (Kd.int .i64) M vq_17 x.Drop:=by
 obtain ⟨c0,d0,rfl,rfl,⟨c1,d1,rfl,rfl,⟨c2,d2,rfl,rfl,⟨c3,d3,rfl,rfl,⟨c4,d4,rfl,rfl,⟨c5,d5,rfl,rfl,⟨c6,d6,rfl,rfl,⟨c7,d7,rfl,rfl,⟨c8,d8,rfl,rfl,⟨c9,d9,rfl,rfl,⟨c10,d10,rfl,rfl,⟨c11,d11,rfl,rfl,⟨c12,d12,rfl,rfl,⟨c13,d13,rfl,rfl,⟨c14,d14,rfl,⟨v14,rfl,k14⟩,⟨c15,d15,rfl,⟨v15,rfl,k15⟩,⟨c16,d16,rfl,⟨v16,rfl,k16⟩,⟨c17,d17,rfl,⟨v17,rfl,k17⟩,rfl⟩⟩⟩⟩⟩⟩⟩⟩⟩⟩⟩⟩⟩⟩⟩⟩⟩⟩:=h
 exact⟨v14,v15,v16,v17,rfl,k14,k15,k16,k17⟩
theorem kd_api_Record_mk {M:IM}{x:T_api_Record}{vq_14 vq_15 vq_16 vq_17:Value}(hq_14:RS (Kd.int .i64) M vq_14 x.Ids) (hq_15:RS (Kd.int .i64) M vq_15 x.Isr) (hq_16:RS (Kd.int .i64) M vq_16 x.Add) (hq_17:RS (Kd.int .i64) M vq_17 x.Drop):kd_api_Record.rc M [(.int .i64 x.Kind),(.int .i64 x.Broker),(.int .i64 x.Epoch),(.int .i64 x.Topic),(.int .i64 x.Part),(.int .i64 x.Leader),(.int .i64 x.Client),(.int .i64 x.Serial),(.int .i64 x.Code),(.bool x.Flag),(.string x.Name),(.string x.Key),(.string x.Value),(.string x.Rack),vq_14,vq_15,vq_16,vq_17] x:=by
 exact⟨_,_,rfl,rfl,⟨_,_,rfl,rfl,⟨_,_,rfl,rfl,⟨_,_,rfl,rfl,⟨_,_,rfl,rfl,⟨_,_,rfl,rfl,⟨_,_,rfl,rfl,⟨_,_,rfl,rfl,⟨_,_,rfl,rfl,⟨_,_,rfl,rfl,⟨_,_,rfl,rfl,⟨_,_,rfl,rfl,⟨_,_,rfl,rfl,⟨_,_,rfl,rfl,⟨_,_,rfl,⟨_,rfl,hq_14⟩,⟨_,_,rfl,⟨_,rfl,hq_15⟩,⟨_,_,rfl,⟨_,rfl,hq_16⟩,⟨_,_,rfl,⟨_,rfl,hq_17⟩,rfl⟩⟩⟩⟩⟩⟩⟩⟩⟩⟩⟩⟩⟩⟩⟩⟩⟩⟩
structure T_api_Done where
 Client:Int
 Serial:Int
 Code:Int
instance:Inhabited T_api_Done:=⟨⟨default,default,default⟩⟩
def kd_api_Done:Kd T_api_Done:=Kd.iso (fun x=>(x.Client,x.Serial,x.Code,())) (Kd.cons (Kd.int .i64) (Kd.cons (Kd.int .i64) (Kd.cons (Kd.int .i64) Kd.nil)))
theorem kd_api_Done_open {M:IM}{cs:List Value}{x:T_api_Done}(h:kd_api_Done.rc M cs x):cs=[(.int .i64 x.Client),(.int .i64 x.Serial),(.int .i64 x.Code)]:=by
 obtain ⟨c0,d0,rfl,rfl,⟨c1,d1,rfl,rfl,⟨c2,d2,rfl,rfl,rfl⟩⟩⟩:=h
 exact rfl
theorem kd_api_Done_mk {M:IM}{x:T_api_Done}:kd_api_Done.rc M [(.int .i64 x.Client),(.int .i64 x.Serial),(.int .i64 x.Code)] x:=by
 exact⟨_,_,rfl,rfl,⟨_,_,rfl,rfl,⟨_,_,rfl,rfl,rfl⟩⟩⟩
theorem kd_api_Done_flat:kd_api_Done.Flat:=fun M M' cs x h=>by obtain rfl:=kd_api_Done_open h;exact kd_api_Done_mk
structure T_api_Image where
 Brokers:(List T_api_Broker)
 Topics:(List T_api_Topic)
 Configs:(List T_api_Config)
 Done:(List T_api_Done)
 Last:Int
instance:Inhabited T_api_Image:=⟨⟨default,default,default,default,default⟩⟩
def kd_api_Image:Kd T_api_Image:=Kd.iso (fun x=>(x.Brokers,x.Topics,x.Configs,x.Done,x.Last,())) (Kd.cons (Kd.slice kd_api_Broker) (Kd.cons (Kd.slice kd_api_Topic) (Kd.cons (Kd.slice kd_api_Config) (Kd.cons (Kd.slice kd_api_Done) (Kd.cons (Kd.int .i64) Kd.nil)))))
theorem kd_api_Image_open {M:IM}{cs:List Value}{x:T_api_Image}(h:kd_api_Image.rc M cs x):∃ vq_0 vq_1 vq_2 vq_3,cs=[vq_0,vq_1,vq_2,vq_3,(.int .i64 x.Last)]∧RS kd_api_Broker M vq_0 x.Brokers∧RS kd_api_Topic M vq_1 x.Topics∧RS kd_api_Config M vq_2 x.Configs∧RS kd_api_Done M vq_3 x.Done:=by
 obtain ⟨c0,d0,rfl,⟨v0,rfl,k0⟩,⟨c1,d1,rfl,⟨v1,rfl,k1⟩,⟨c2,d2,rfl,⟨v2,rfl,k2⟩,⟨c3,d3,rfl,⟨v3,rfl,k3⟩,⟨c4,d4,rfl,rfl,rfl⟩⟩⟩⟩⟩:=h
 exact⟨v0,v1,v2,v3,rfl,k0,k1,k2,k3⟩
theorem kd_api_Image_mk {M:IM}{x:T_api_Image}{vq_0 vq_1 vq_2 vq_3:Value}(hq_0:RS kd_api_Broker M vq_0 x.Brokers) (hq_1:RS kd_api_Topic M vq_1 x.Topics) (hq_2:RS kd_api_Config M vq_2 x.Configs) (hq_3:RS kd_api_Done M vq_3 x.Done):kd_api_Image.rc M [vq_0,vq_1,vq_2,vq_3,(.int .i64 x.Last)] x:=by
 exact⟨_,_,rfl,⟨_,rfl,hq_0⟩,⟨_,_,rfl,⟨_,rfl,hq_1⟩,⟨_,_,rfl,⟨_,rfl,hq_2⟩,⟨_,_,rfl,⟨_,rfl,hq_3⟩,⟨_,_,rfl,rfl,rfl⟩⟩⟩⟩⟩
structure T_ref05_Wrong where
 Op:ByteArray
 At:Int
 Code:Int
instance:Inhabited T_ref05_Wrong:=⟨⟨⟨#[]⟩,default,default⟩⟩
def kd_ref05_Wrong:Kd T_ref05_Wrong:=Kd.iso (fun x=>(x.Op,x.At,x.Code,())) (Kd.cons Kd.str (Kd.cons (Kd.int .i64) (Kd.cons (Kd.int .i64) Kd.nil)))
theorem kd_ref05_Wrong_open {M:IM}{cs:List Value}{x:T_ref05_Wrong}(h:kd_ref05_Wrong.rc M cs x):cs=[(.string x.Op),(.int .i64 x.At),(.int .i64 x.Code)]:=by
 obtain ⟨c0,d0,rfl,rfl,⟨c1,d1,rfl,rfl,⟨c2,d2,rfl,rfl,rfl⟩⟩⟩:=h
 exact rfl
theorem kd_ref05_Wrong_mk {M:IM}{x:T_ref05_Wrong}:kd_ref05_Wrong.rc M [(.string x.Op),(.int .i64 x.At),(.int .i64 x.Code)] x:=by
 exact⟨_,_,rfl,rfl,⟨_,_,rfl,rfl,⟨_,_,rfl,rfl,rfl⟩⟩⟩
theorem kd_ref05_Wrong_flat:kd_ref05_Wrong.Flat:=fun M M' cs x h=>by obtain rfl:=kd_ref05_Wrong_open h;exact kd_ref05_Wrong_mk
structure T_wire_Reader where
 b:(List Int)
 at_:Int
 err:GErr
instance:Inhabited T_wire_Reader:=⟨⟨default,default,default⟩⟩
def kd_wire_Reader:Kd T_wire_Reader:=Kd.iso (fun x=>(x.b,x.at_,x.err,())) (Kd.cons (Kd.slice (Kd.int .u8)) (Kd.cons (Kd.int .i64) (Kd.cons kdErr Kd.nil)))
theorem kd_wire_Reader_open {M:IM}{cs:List Value}{x:T_wire_Reader}(h:kd_wire_Reader.rc M cs x):∃ vq_0,cs=[vq_0,(.int .i64 x.at_),(GV x.err)]∧RS (Kd.int .u8) M vq_0 x.b:=by
 obtain ⟨c0,d0,rfl,⟨v0,rfl,k0⟩,⟨c1,d1,rfl,rfl,⟨c2,d2,rfl,rfl,rfl⟩⟩⟩:=h
 exact⟨v0,rfl,k0⟩
theorem kd_wire_Reader_mk {M:IM}{x:T_wire_Reader}{vq_0:Value}(hq_0:RS (Kd.int .u8) M vq_0 x.b):kd_wire_Reader.rc M [vq_0,(.int .i64 x.at_),(GV x.err)] x:=by
 exact⟨_,_,rfl,⟨_,rfl,hq_0⟩,⟨_,_,rfl,rfl,⟨_,_,rfl,rfl,rfl⟩⟩⟩
structure T_api_Fault where
 Op:ByteArray
 At:Int
 Err:GErr
instance:Inhabited T_api_Fault:=⟨⟨⟨#[]⟩,default,default⟩⟩
def kd_api_Fault:Kd T_api_Fault:=Kd.iso (fun x=>(x.Op,x.At,x.Err,())) (Kd.cons Kd.str (Kd.cons (Kd.int .i64) (Kd.cons kdErr Kd.nil)))
theorem kd_api_Fault_open {M:IM}{cs:List Value}{x:T_api_Fault}(h:kd_api_Fault.rc M cs x):cs=[(.string x.Op),(.int .i64 x.At),(GV x.Err)]:=by
 obtain ⟨c0,d0,rfl,rfl,⟨c1,d1,rfl,rfl,⟨c2,d2,rfl,rfl,rfl⟩⟩⟩:=h
 exact rfl
theorem kd_api_Fault_mk {M:IM}{x:T_api_Fault}:kd_api_Fault.rc M [(.string x.Op),(.int .i64 x.At),(GV x.Err)] x:=by
 exact⟨_,_,rfl,rfl,⟨_,_,rfl,rfl,⟨_,_,rfl,rfl,rfl⟩⟩⟩
theorem kd_api_Fault_flat:kd_api_Fault.Flat:=fun M M' cs x h=>by obtain rfl:=kd_api_Fault_open h;exact kd_api_Fault_mk
structure T_ref16_Wrong where
 Op:ByteArray
 At:Int
 Code:Int
instance:Inhabited T_ref16_Wrong:=⟨⟨⟨#[]⟩,default,default⟩⟩
def kd_ref16_Wrong:Kd T_ref16_Wrong:=Kd.iso (fun x=>(x.Op,x.At,x.Code,())) (Kd.cons Kd.str (Kd.cons (Kd.int .i64) (Kd.cons (Kd.int .i64) Kd.nil)))
theorem kd_ref16_Wrong_open {M:IM}{cs:List Value}{x:T_ref16_Wrong}(h:kd_ref16_Wrong.rc M cs x):cs=[(.string x.Op),(.int .i64 x.At),(.int .i64 x.Code)]:=by
 obtain ⟨c0,d0,rfl,rfl,⟨c1,d1,rfl,rfl,⟨c2,d2,rfl,rfl,rfl⟩⟩⟩:=h
 exact rfl
theorem kd_ref16_Wrong_mk {M:IM}{x:T_ref16_Wrong}:kd_ref16_Wrong.rc M [(.string x.Op),(.int .i64 x.At),(.int .i64 x.Code)] x:=by
 exact⟨_,_,rfl,rfl,⟨_,_,rfl,rfl,⟨_,_,rfl,rfl,rfl⟩⟩⟩
theorem kd_ref16_Wrong_flat:kd_ref16_Wrong.Flat:=fun M M' cs x h=>by obtain rfl:=kd_ref16_Wrong_open h;exact kd_ref16_Wrong_mk
abbrev pt (b o:Nat):Value:= .pointer (some ⟨b,o,none⟩)
abbrev l71 (x:T_api_Broker):List Value:=[(.int .i64 x.Id),(.int .i64 x.Epoch),(.string x.Rack),(.bool x.Fenced),(.bool x.Leaving)]
abbrev z71_:List Value:=[(.int .i64 (0:Int)),(.int .i64 (0:Int)),(.string (⟨#[]⟩:ByteArray)),(.bool false),(.bool false)]
abbrev a71_ (x:T_api_Broker):Value:= .agg (l71 x).toArray
abbrev l58 (x:T_api_Part) (vq_0 vq_1 vq_4 vq_5:Value):List Value:=[vq_0,vq_1,(.int .i64 x.Leader),(.int .i64 x.Epoch),vq_4,vq_5]
abbrev z58_:List Value:=[(.slice none 0 0),(.slice none 0 0),(.int .i64 (0:Int)),(.int .i64 (0:Int)),(.slice none 0 0),(.slice none 0 0)]
abbrev a58_ (x:T_api_Part) (vq_0 vq_1 vq_4 vq_5:Value):Value:= .agg (l58 x vq_0 vq_1 vq_4 vq_5).toArray
abbrev l55 (x:T_api_Topic) (vq_2:Value):List Value:=[(.int .i64 x.Id),(.string x.Name),vq_2]
abbrev a55_ (x:T_api_Topic) (vq_2:Value):Value:= .agg (l55 x vq_2).toArray
abbrev l76 (x:T_api_Config):List Value:=[(.int .i64 x.Topic),(.string x.Key),(.string x.Value)]
abbrev z76_:List Value:=[(.int .i64 (0:Int)),(.string (⟨#[]⟩:ByteArray)),(.string (⟨#[]⟩:ByteArray))]
abbrev a76_ (x:T_api_Config):Value:= .agg (l76 x).toArray
abbrev l111 (x:T_api_Record) (vq_14 vq_15 vq_16 vq_17:Value):List Value:=[(.int .i64 x.Kind),(.int .i64 x.Broker),(.int .i64 x.Epoch),(.int .i64 x.Topic),(.int .i64 x.Part),(.int .i64 x.Leader),(.int .i64 x.Client),(.int .i64 x.Serial),(.int .i64 x.Code),(.bool x.Flag),(.string x.Name),(.string x.Key),(.string x.Value),(.string x.Rack),vq_14,vq_15,vq_16,vq_17]
abbrev z111_:List Value:=[(.int .i64 (0:Int)),(.int .i64 (0:Int)),(.int .i64 (0:Int)),(.int .i64 (0:Int)),(.int .i64 (0:Int)),(.int .i64 (0:Int)),(.int .i64 (0:Int)),(.int .i64 (0:Int)),(.int .i64 (0:Int)),(.bool false),(.string (⟨#[]⟩:ByteArray)),(.string (⟨#[]⟩:ByteArray)),(.string (⟨#[]⟩:ByteArray)),(.string (⟨#[]⟩:ByteArray)),(.slice none 0 0),(.slice none 0 0),(.slice none 0 0),(.slice none 0 0)]
abbrev a111_ (x:T_api_Record) (vq_14 vq_15 vq_16 vq_17:Value):Value:= .agg (l111 x vq_14 vq_15 vq_16 vq_17).toArray
abbrev l67 (x:T_api_Done):List Value:=[(.int .i64 x.Client),(.int .i64 x.Serial),(.int .i64 x.Code)]
abbrev a67_ (x:T_api_Done):Value:= .agg (l67 x).toArray
abbrev l27 (x:T_api_Image) (vq_0 vq_1 vq_2 vq_3:Value):List Value:=[vq_0,vq_1,vq_2,vq_3,(.int .i64 x.Last)]
abbrev z27_:List Value:=[(.slice none 0 0),(.slice none 0 0),(.slice none 0 0),(.slice none 0 0),(.int .i64 (0:Int))]
abbrev a27_ (x:T_api_Image) (vq_0 vq_1 vq_2 vq_3:Value):Value:= .agg (l27 x vq_0 vq_1 vq_2 vq_3).toArray
abbrev l144 (x:T_ref05_Wrong):List Value:=[(.string x.Op),(.int .i64 x.At),(.int .i64 x.Code)]
abbrev a144_ (x:T_ref05_Wrong):Value:= .agg (l144 x).toArray
abbrev l130 (x:T_wire_Reader) (vq_0:Value):List Value:=[vq_0,(.int .i64 x.at_),(GV x.err)]
abbrev a130_ (x:T_wire_Reader) (vq_0:Value):Value:= .agg (l130 x vq_0).toArray
abbrev l114 (x:T_api_Fault):List Value:=[(.string x.Op),(.int .i64 x.At),(GV x.Err)]
abbrev a114_ (x:T_api_Fault):Value:= .agg (l114 x).toArray
abbrev l36 (x:T_ref16_Wrong):List Value:=[(.string x.Op),(.int .i64 x.At),(.int .i64 x.Code)]
abbrev a36_ (x:T_ref16_Wrong):Value:= .agg (l36 x).toArray
end Go.Proofs.YtpcbipcdfccnnaaGreatDoor.G
