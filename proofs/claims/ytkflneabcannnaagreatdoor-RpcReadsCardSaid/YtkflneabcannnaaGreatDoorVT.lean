/- The values of the structs of this program, and what their cells are. Printed by a program of the session (gen). -/
import Derived.Test.YtkflneabcannnaaGreatDoorKEq
import Derived.Test.YtkflneabcannnaaGreatDoorKRefl
namespace Go.Proofs.YtkflneabcannnaaGreatDoor.G
open Go Go.KK
abbrev GV (e:GErr):Value:=e.val 38 108 0
abbrev kdErr:Kd GErr:=kdErrOf 38 108 0
structure T_api_Record where
 Kind:Int
 Broker:Int
 Epoch:Int
 Topic:Int
 Part:Int
 Leader:Int
 Client:Int
 Serial:Int
 Code:Int
 Flag:Bool
 Name:ByteArray
 Key:ByteArray
 Value:ByteArray
 Rack:ByteArray
 Ids:(List Int)
 Isr:(List Int)
 Add:(List Int)
 Drop:(List Int)
instance:Inhabited T_api_Record:=⟨⟨default,default,default,default,default,default,default,default,default,default,⟨#[]⟩,⟨#[]⟩,⟨#[]⟩,⟨#[]⟩,default,default,default,default⟩⟩
def kd_api_Record:Kd T_api_Record:=Kd.iso (fun x=>(x.Kind,x.Broker,x.Epoch,x.Topic,x.Part,x.Leader,x.Client,x.Serial,x.Code,x.Flag,x.Name,x.Key,x.Value,x.Rack,x.Ids,x.Isr,x.Add,x.Drop,())) (Kd.cons (Kd.int .i64) (Kd.cons (Kd.int .i64) (Kd.cons (Kd.int .i64) (Kd.cons (Kd.int .i64) (Kd.cons (Kd.int .i64) (Kd.cons (Kd.int .i64) (Kd.cons (Kd.int .i64) (Kd.cons (Kd.int .i64) (Kd.cons (Kd.int .i64) (Kd.cons Kd.bool (Kd.cons Kd.str (Kd.cons Kd.str (Kd.cons Kd.str (Kd.cons Kd.str (Kd.cons (Kd.slice (Kd.int .i64)) (Kd.cons (Kd.slice (Kd.int .i64)) (Kd.cons (Kd.slice (Kd.int .i64)) (Kd.cons (Kd.slice (Kd.int .i64)) Kd.nil))))))))))))))))))
theorem kd_api_Record_open {M:IM}{cs:List Value}{x:T_api_Record}(h:kd_api_Record.rc M cs x):∃ vq_14 vq_15 vq_16 vq_17,cs=[(.int .i64 x.Kind),(.int .i64 x.Broker),(.int .i64 x.Epoch),(.int .i64 x.Topic),(.int .i64 x.Part),(.int .i64 x.Leader),(.int .i64 x.Client),(.int .i64 x.Serial),(.int .i64 x.Code),(.bool x.Flag),(.string x.Name),(.string x.Key),(.string x.Value),(.string x.Rack),vq_14,vq_15,vq_16,vq_17]∧RS (Kd.int .i64) M vq_14 x.Ids∧RS (Kd.int .i64) M vq_15 x.Isr∧RS (Kd.int .i64) M vq_16 x.Add∧RS (Kd.int .i64) M vq_17 x.Drop:=by
 obtain ⟨c0,d0,rfl,rfl,⟨c1,d1,rfl,rfl,⟨c2,d2,rfl,rfl,⟨c3,d3,rfl,rfl,⟨c4,d4,rfl,rfl,⟨c5,d5,rfl,rfl,⟨c6,d6,rfl,rfl,⟨c7,d7,rfl,rfl,⟨c8,d8,rfl,rfl,⟨c9,d9,rfl,rfl,⟨c10,d10,rfl,rfl,⟨c11,d11,rfl,rfl,⟨c12,d12,rfl,rfl,⟨c13,d13,rfl,rfl,⟨c14,d14,rfl,⟨v14,rfl,k14⟩,⟨c15,d15,rfl,⟨v15,rfl,k15⟩,⟨c16,d16,rfl,⟨v16,rfl,k16⟩,⟨c17,d17,rfl,⟨v17,rfl,k17⟩,rfl⟩⟩⟩⟩⟩⟩⟩⟩⟩⟩⟩⟩⟩⟩⟩⟩⟩⟩:=h
 exact⟨v14,v15,v16,v17,rfl,k14,k15,k16,k17⟩
theorem kd_api_Record_mk {M:IM}{x:T_api_Record}{vq_14 vq_15 vq_16 vq_17:Value}(hq_14:RS (Kd.int .i64) M vq_14 x.Ids) (hq_15:RS (Kd.int .i64) M vq_15 x.Isr) (hq_16:RS (Kd.int .i64) M vq_16 x.Add) (hq_17:RS (Kd.int .i64) M vq_17 x.Drop):kd_api_Record.rc M [(.int .i64 x.Kind),(.int .i64 x.Broker),(.int .i64 x.Epoch),(.int .i64 x.Topic),(.int .i64 x.Part),(.int .i64 x.Leader),(.int .i64 x.Client),(.int .i64 x.Serial),(.int .i64 x.Code),(.bool x.Flag),(.string x.Name),(.string x.Key),(.string x.Value),(.string x.Rack),vq_14,vq_15,vq_16,vq_17] x:=by
 exact⟨_,_,rfl,rfl,⟨_,_,rfl,rfl,⟨_,_,rfl,rfl,⟨_,_,rfl,rfl,⟨_,_,rfl,rfl,⟨_,_,rfl,rfl,⟨_,_,rfl,rfl,⟨_,_,rfl,rfl,⟨_,_,rfl,rfl,⟨_,_,rfl,rfl,⟨_,_,rfl,rfl,⟨_,_,rfl,rfl,⟨_,_,rfl,rfl,⟨_,_,rfl,rfl,⟨_,_,rfl,⟨_,rfl,hq_14⟩,⟨_,_,rfl,⟨_,rfl,hq_15⟩,⟨_,_,rfl,⟨_,rfl,hq_16⟩,⟨_,_,rfl,⟨_,rfl,hq_17⟩,rfl⟩⟩⟩⟩⟩⟩⟩⟩⟩⟩⟩⟩⟩⟩⟩⟩⟩⟩
structure T_api_Batch where
 Term:Int
 Base:Int
 Records:(List T_api_Record)
instance:Inhabited T_api_Batch:=⟨⟨default,default,default⟩⟩
def kd_api_Batch:Kd T_api_Batch:=Kd.iso (fun x=>(x.Term,x.Base,x.Records,())) (Kd.cons (Kd.int .i64) (Kd.cons (Kd.int .i64) (Kd.cons (Kd.slice kd_api_Record) Kd.nil)))
theorem kd_api_Batch_open {M:IM}{cs:List Value}{x:T_api_Batch}(h:kd_api_Batch.rc M cs x):∃ vq_2,cs=[(.int .i64 x.Term),(.int .i64 x.Base),vq_2]∧RS kd_api_Record M vq_2 x.Records:=by
 obtain ⟨c0,d0,rfl,rfl,⟨c1,d1,rfl,rfl,⟨c2,d2,rfl,⟨v2,rfl,k2⟩,rfl⟩⟩⟩:=h
 exact⟨v2,rfl,k2⟩
theorem kd_api_Batch_mk {M:IM}{x:T_api_Batch}{vq_2:Value}(hq_2:RS kd_api_Record M vq_2 x.Records):kd_api_Batch.rc M [(.int .i64 x.Term),(.int .i64 x.Base),vq_2] x:=by
 exact⟨_,_,rfl,rfl,⟨_,_,rfl,rfl,⟨_,_,rfl,⟨_,rfl,hq_2⟩,rfl⟩⟩⟩
structure T_api_Rpc where
 Kind:Int
 From:Int
 To:Int
 Term:Int
 Pre:Bool
 Ok:Bool
 Leader:Int
 At:Int
 AtTerm:Int
 High:Int
 Code:Int
 Batches:(List T_api_Batch)
 Size:Int
 Pos:Int
 Data:(List Int)
instance:Inhabited T_api_Rpc:=⟨⟨default,default,default,default,default,default,default,default,default,default,default,default,default,default,default⟩⟩
def kd_api_Rpc:Kd T_api_Rpc:=Kd.iso (fun x=>(x.Kind,x.From,x.To,x.Term,x.Pre,x.Ok,x.Leader,x.At,x.AtTerm,x.High,x.Code,x.Batches,x.Size,x.Pos,x.Data,())) (Kd.cons (Kd.int .i64) (Kd.cons (Kd.int .i64) (Kd.cons (Kd.int .i64) (Kd.cons (Kd.int .i64) (Kd.cons Kd.bool (Kd.cons Kd.bool (Kd.cons (Kd.int .i64) (Kd.cons (Kd.int .i64) (Kd.cons (Kd.int .i64) (Kd.cons (Kd.int .i64) (Kd.cons (Kd.int .i64) (Kd.cons (Kd.slice kd_api_Batch) (Kd.cons (Kd.int .i64) (Kd.cons (Kd.int .i64) (Kd.cons (Kd.slice (Kd.int .u8)) Kd.nil)))))))))))))))
theorem kd_api_Rpc_open {M:IM}{cs:List Value}{x:T_api_Rpc}(h:kd_api_Rpc.rc M cs x):∃ vq_11 vq_14,cs=[(.int .i64 x.Kind),(.int .i64 x.From),(.int .i64 x.To),(.int .i64 x.Term),(.bool x.Pre),(.bool x.Ok),(.int .i64 x.Leader),(.int .i64 x.At),(.int .i64 x.AtTerm),(.int .i64 x.High),(.int .i64 x.Code),vq_11,(.int .i64 x.Size),(.int .i64 x.Pos),vq_14]∧RS kd_api_Batch M vq_11 x.Batches∧RS (Kd.int .u8) M vq_14 x.Data:=by
 obtain ⟨c0,d0,rfl,rfl,⟨c1,d1,rfl,rfl,⟨c2,d2,rfl,rfl,⟨c3,d3,rfl,rfl,⟨c4,d4,rfl,rfl,⟨c5,d5,rfl,rfl,⟨c6,d6,rfl,rfl,⟨c7,d7,rfl,rfl,⟨c8,d8,rfl,rfl,⟨c9,d9,rfl,rfl,⟨c10,d10,rfl,rfl,⟨c11,d11,rfl,⟨v11,rfl,k11⟩,⟨c12,d12,rfl,rfl,⟨c13,d13,rfl,rfl,⟨c14,d14,rfl,⟨v14,rfl,k14⟩,rfl⟩⟩⟩⟩⟩⟩⟩⟩⟩⟩⟩⟩⟩⟩⟩:=h
 exact⟨v11,v14,rfl,k11,k14⟩
theorem kd_api_Rpc_mk {M:IM}{x:T_api_Rpc}{vq_11 vq_14:Value}(hq_11:RS kd_api_Batch M vq_11 x.Batches) (hq_14:RS (Kd.int .u8) M vq_14 x.Data):kd_api_Rpc.rc M [(.int .i64 x.Kind),(.int .i64 x.From),(.int .i64 x.To),(.int .i64 x.Term),(.bool x.Pre),(.bool x.Ok),(.int .i64 x.Leader),(.int .i64 x.At),(.int .i64 x.AtTerm),(.int .i64 x.High),(.int .i64 x.Code),vq_11,(.int .i64 x.Size),(.int .i64 x.Pos),vq_14] x:=by
 exact⟨_,_,rfl,rfl,⟨_,_,rfl,rfl,⟨_,_,rfl,rfl,⟨_,_,rfl,rfl,⟨_,_,rfl,rfl,⟨_,_,rfl,rfl,⟨_,_,rfl,rfl,⟨_,_,rfl,rfl,⟨_,_,rfl,rfl,⟨_,_,rfl,rfl,⟨_,_,rfl,rfl,⟨_,_,rfl,⟨_,rfl,hq_11⟩,⟨_,_,rfl,rfl,⟨_,_,rfl,rfl,⟨_,_,rfl,⟨_,rfl,hq_14⟩,rfl⟩⟩⟩⟩⟩⟩⟩⟩⟩⟩⟩⟩⟩⟩⟩
structure T_api_Frame where
 Kind:Int
 Body:(List Int)
instance:Inhabited T_api_Frame:=⟨⟨default,default⟩⟩
def kd_api_Frame:Kd T_api_Frame:=Kd.iso (fun x=>(x.Kind,x.Body,())) (Kd.cons (Kd.int .i64) (Kd.cons (Kd.slice (Kd.int .u8)) Kd.nil))
theorem kd_api_Frame_open {M:IM}{cs:List Value}{x:T_api_Frame}(h:kd_api_Frame.rc M cs x):∃ vq_1,cs=[(.int .i64 x.Kind),vq_1]∧RS (Kd.int .u8) M vq_1 x.Body:=by
 obtain ⟨c0,d0,rfl,rfl,⟨c1,d1,rfl,⟨v1,rfl,k1⟩,rfl⟩⟩:=h
 exact⟨v1,rfl,k1⟩
theorem kd_api_Frame_mk {M:IM}{x:T_api_Frame}{vq_1:Value}(hq_1:RS (Kd.int .u8) M vq_1 x.Body):kd_api_Frame.rc M [(.int .i64 x.Kind),vq_1] x:=by
 exact⟨_,_,rfl,rfl,⟨_,_,rfl,⟨_,rfl,hq_1⟩,rfl⟩⟩
structure T_wire_Reader where
 b:(List Int)
 at_:Int
 err:GErr
instance:Inhabited T_wire_Reader:=⟨⟨default,default,default⟩⟩
def kd_wire_Reader:Kd T_wire_Reader:=Kd.iso (fun x=>(x.b,x.at_,x.err,())) (Kd.cons (Kd.slice (Kd.int .u8)) (Kd.cons (Kd.int .i64) (Kd.cons kdErr Kd.nil)))
theorem kd_wire_Reader_open {M:IM}{cs:List Value}{x:T_wire_Reader}(h:kd_wire_Reader.rc M cs x):∃ vq_0,cs=[vq_0,(.int .i64 x.at_),(GV x.err)]∧RS (Kd.int .u8) M vq_0 x.b:=by
 obtain ⟨c0,d0,rfl,⟨v0,rfl,k0⟩,⟨c1,d1,rfl,rfl,⟨c2,d2,rfl,rfl,rfl⟩⟩⟩:=h
 exact⟨v0,rfl,k0⟩
theorem kd_wire_Reader_mk {M:IM}{x:T_wire_Reader}{vq_0:Value}(hq_0:RS (Kd.int .u8) M vq_0 x.b):kd_wire_Reader.rc M [vq_0,(.int .i64 x.at_),(GV x.err)] x:=by
 exact⟨_,_,rfl,⟨_,rfl,hq_0⟩,⟨_,_,rfl,rfl,⟨_,_,rfl,rfl,rfl⟩⟩⟩
structure T_api_Fault where
 Op:ByteArray
 At:Int
 Err:GErr
instance:Inhabited T_api_Fault:=⟨⟨⟨#[]⟩,default,default⟩⟩
def kd_api_Fault:Kd T_api_Fault:=Kd.iso (fun x=>(x.Op,x.At,x.Err,())) (Kd.cons Kd.str (Kd.cons (Kd.int .i64) (Kd.cons kdErr Kd.nil)))
theorem kd_api_Fault_open {M:IM}{cs:List Value}{x:T_api_Fault}(h:kd_api_Fault.rc M cs x):cs=[(.string x.Op),(.int .i64 x.At),(GV x.Err)]:=by
 obtain ⟨c0,d0,rfl,rfl,⟨c1,d1,rfl,rfl,⟨c2,d2,rfl,rfl,rfl⟩⟩⟩:=h
 exact rfl
theorem kd_api_Fault_mk {M:IM}{x:T_api_Fault}:kd_api_Fault.rc M [(.string x.Op),(.int .i64 x.At),(GV x.Err)] x:=by
 exact⟨_,_,rfl,rfl,⟨_,_,rfl,rfl,⟨_,_,rfl,rfl,rfl⟩⟩⟩
theorem kd_api_Fault_flat:kd_api_Fault.Flat:=fun M M' cs x h=>by obtain rfl:=kd_api_Fault_open h;exact kd_api_Fault_mk
structure T_ref05_Wrong where
 Op:ByteArray
 At:Int
 Code:Int
instance:Inhabited T_ref05_Wrong:=⟨⟨⟨#[]⟩,default,default⟩⟩
def kd_ref05_Wrong:Kd T_ref05_Wrong:=Kd.iso (fun x=>(x.Op,x.At,x.Code,())) (Kd.cons Kd.str (Kd.cons (Kd.int .i64) (Kd.cons (Kd.int .i64) Kd.nil)))
theorem kd_ref05_Wrong_open {M:IM}{cs:List Value}{x:T_ref05_Wrong}(h:kd_ref05_Wrong.rc M cs x):cs=[(.string x.Op),(.int .i64 x.At),(.int .i64 x.Code)]:=by
 obtain ⟨c0,d0,rfl,rfl,⟨c1,d1,rfl,rfl,⟨c2,d2,rfl,rfl,rfl⟩⟩⟩:=h
 exact rfl
theorem kd_ref05_Wrong_mk {M:IM}{x:T_ref05_Wrong}:kd_ref05_Wrong.rc M [(.string x.Op),(.int .i64 x.At),(.int .i64 x.Code)] x:=by
 exact⟨_,_,rfl,rfl,⟨_,_,rfl,rfl,⟨_,_,rfl,rfl,rfl⟩⟩⟩
theorem kd_ref05_Wrong_flat:kd_ref05_Wrong.Flat:=fun M M' cs x h=>by obtain rfl:=kd_ref05_Wrong_open h;exact kd_ref05_Wrong_mk
structure T_ref06_Wrong where
 W:T_ref05_Wrong
 Record:Int
instance:Inhabited T_ref06_Wrong:=⟨⟨default,default⟩⟩
def kd_ref06_Wrong:Kd T_ref06_Wrong:=Kd.iso (fun x=>(x.W,x.Record,())) (Kd.cons kd_ref05_Wrong (Kd.cons (Kd.int .i64) Kd.nil))
theorem kd_ref06_Wrong_open {M:IM}{cs:List Value}{x:T_ref06_Wrong}(h:kd_ref06_Wrong.rc M cs x):cs=[(.string x.W.Op),(.int .i64 x.W.At),(.int .i64 x.W.Code),(.int .i64 x.Record)]:=by
 obtain ⟨c0,d0,rfl,k0,⟨c1,d1,rfl,rfl,rfl⟩⟩:=h
 obtain rfl:=kd_ref05_Wrong_open k0
 exact rfl
theorem kd_ref06_Wrong_mk {M:IM}{x:T_ref06_Wrong}:kd_ref06_Wrong.rc M [(.string x.W.Op),(.int .i64 x.W.At),(.int .i64 x.W.Code),(.int .i64 x.Record)] x:=by
 exact⟨_,_,rfl,kd_ref05_Wrong_mk,⟨_,_,rfl,rfl,rfl⟩⟩
theorem kd_ref06_Wrong_flat:kd_ref06_Wrong.Flat:=fun M M' cs x h=>by obtain rfl:=kd_ref06_Wrong_open h;exact kd_ref06_Wrong_mk
structure T_ref02_State where
 At:Int
 Code:Int
 Op:ByteArray
 Where:Int
instance:Inhabited T_ref02_State:=⟨⟨default,default,⟨#[]⟩,default⟩⟩
def kd_ref02_State:Kd T_ref02_State:=Kd.iso (fun x=>(x.At,x.Code,x.Op,x.Where,())) (Kd.cons (Kd.int .i64) (Kd.cons (Kd.int .i64) (Kd.cons Kd.str (Kd.cons (Kd.int .i64) Kd.nil))))
theorem kd_ref02_State_open {M:IM}{cs:List Value}{x:T_ref02_State}(h:kd_ref02_State.rc M cs x):cs=[(.int .i64 x.At),(.int .i64 x.Code),(.string x.Op),(.int .i64 x.Where)]:=by
 obtain ⟨c0,d0,rfl,rfl,⟨c1,d1,rfl,rfl,⟨c2,d2,rfl,rfl,⟨c3,d3,rfl,rfl,rfl⟩⟩⟩⟩:=h
 exact rfl
theorem kd_ref02_State_mk {M:IM}{x:T_ref02_State}:kd_ref02_State.rc M [(.int .i64 x.At),(.int .i64 x.Code),(.string x.Op),(.int .i64 x.Where)] x:=by
 exact⟨_,_,rfl,rfl,⟨_,_,rfl,rfl,⟨_,_,rfl,rfl,⟨_,_,rfl,rfl,rfl⟩⟩⟩⟩
theorem kd_ref02_State_flat:kd_ref02_State.Flat:=fun M M' cs x h=>by obtain rfl:=kd_ref02_State_open h;exact kd_ref02_State_mk
structure T_ref02_Ask where
 Kind:Int
 Most:Int
 Each:Int
instance:Inhabited T_ref02_Ask:=⟨⟨default,default,default⟩⟩
def kd_ref02_Ask:Kd T_ref02_Ask:=Kd.iso (fun x=>(x.Kind,x.Most,x.Each,())) (Kd.cons (Kd.int .i64) (Kd.cons (Kd.int .i64) (Kd.cons (Kd.int .i64) Kd.nil)))
theorem kd_ref02_Ask_open {M:IM}{cs:List Value}{x:T_ref02_Ask}(h:kd_ref02_Ask.rc M cs x):cs=[(.int .i64 x.Kind),(.int .i64 x.Most),(.int .i64 x.Each)]:=by
 obtain ⟨c0,d0,rfl,rfl,⟨c1,d1,rfl,rfl,⟨c2,d2,rfl,rfl,rfl⟩⟩⟩:=h
 exact rfl
theorem kd_ref02_Ask_mk {M:IM}{x:T_ref02_Ask}:kd_ref02_Ask.rc M [(.int .i64 x.Kind),(.int .i64 x.Most),(.int .i64 x.Each)] x:=by
 exact⟨_,_,rfl,rfl,⟨_,_,rfl,rfl,⟨_,_,rfl,rfl,rfl⟩⟩⟩
theorem kd_ref02_Ask_flat:kd_ref02_Ask.Flat:=fun M M' cs x h=>by obtain rfl:=kd_ref02_Ask_open h;exact kd_ref02_Ask_mk
structure T_ref02_Got where
 Num:Int
 Flag:Bool
 Text:(List Int)
 Row:(List Int)
instance:Inhabited T_ref02_Got:=⟨⟨default,default,default,default⟩⟩
def kd_ref02_Got:Kd T_ref02_Got:=Kd.iso (fun x=>(x.Num,x.Flag,x.Text,x.Row,())) (Kd.cons (Kd.int .u64) (Kd.cons Kd.bool (Kd.cons (Kd.slice (Kd.int .u8)) (Kd.cons (Kd.slice (Kd.int .i64)) Kd.nil))))
theorem kd_ref02_Got_open {M:IM}{cs:List Value}{x:T_ref02_Got}(h:kd_ref02_Got.rc M cs x):∃ vq_2 vq_3,cs=[(.int .u64 x.Num),(.bool x.Flag),vq_2,vq_3]∧RS (Kd.int .u8) M vq_2 x.Text∧RS (Kd.int .i64) M vq_3 x.Row:=by
 obtain ⟨c0,d0,rfl,rfl,⟨c1,d1,rfl,rfl,⟨c2,d2,rfl,⟨v2,rfl,k2⟩,⟨c3,d3,rfl,⟨v3,rfl,k3⟩,rfl⟩⟩⟩⟩:=h
 exact⟨v2,v3,rfl,k2,k3⟩
theorem kd_ref02_Got_mk {M:IM}{x:T_ref02_Got}{vq_2 vq_3:Value}(hq_2:RS (Kd.int .u8) M vq_2 x.Text) (hq_3:RS (Kd.int .i64) M vq_3 x.Row):kd_ref02_Got.rc M [(.int .u64 x.Num),(.bool x.Flag),vq_2,vq_3] x:=by
 exact⟨_,_,rfl,rfl,⟨_,_,rfl,rfl,⟨_,_,rfl,⟨_,rfl,hq_2⟩,⟨_,_,rfl,⟨_,rfl,hq_3⟩,rfl⟩⟩⟩⟩
structure T_ref05_Cursor where
 B:(List Int)
 S:T_ref02_State
instance:Inhabited T_ref05_Cursor:=⟨⟨default,default⟩⟩
def kd_ref05_Cursor:Kd T_ref05_Cursor:=Kd.iso (fun x=>(x.B,x.S,())) (Kd.cons (Kd.slice (Kd.int .u8)) (Kd.cons kd_ref02_State Kd.nil))
theorem kd_ref05_Cursor_open {M:IM}{cs:List Value}{x:T_ref05_Cursor}(h:kd_ref05_Cursor.rc M cs x):∃ vq_0,cs=[vq_0,(.int .i64 x.S.At),(.int .i64 x.S.Code),(.string x.S.Op),(.int .i64 x.S.Where)]∧RS (Kd.int .u8) M vq_0 x.B:=by
 obtain ⟨c0,d0,rfl,⟨v0,rfl,k0⟩,⟨c1,d1,rfl,k1,rfl⟩⟩:=h
 obtain rfl:=kd_ref02_State_open k1
 exact⟨v0,rfl,k0⟩
theorem kd_ref05_Cursor_mk {M:IM}{x:T_ref05_Cursor}{vq_0:Value}(hq_0:RS (Kd.int .u8) M vq_0 x.B):kd_ref05_Cursor.rc M [vq_0,(.int .i64 x.S.At),(.int .i64 x.S.Code),(.string x.S.Op),(.int .i64 x.S.Where)] x:=by
 exact⟨_,_,rfl,⟨_,rfl,hq_0⟩,⟨_,_,rfl,kd_ref02_State_mk,rfl⟩⟩
abbrev pt (b o:Nat):Value:= .pointer (some ⟨b,o,none⟩)
abbrev l58 (x:T_api_Record) (vq_14 vq_15 vq_16 vq_17:Value):List Value:=[(.int .i64 x.Kind),(.int .i64 x.Broker),(.int .i64 x.Epoch),(.int .i64 x.Topic),(.int .i64 x.Part),(.int .i64 x.Leader),(.int .i64 x.Client),(.int .i64 x.Serial),(.int .i64 x.Code),(.bool x.Flag),(.string x.Name),(.string x.Key),(.string x.Value),(.string x.Rack),vq_14,vq_15,vq_16,vq_17]
abbrev z58_:List Value:=[(.int .i64 (0:Int)),(.int .i64 (0:Int)),(.int .i64 (0:Int)),(.int .i64 (0:Int)),(.int .i64 (0:Int)),(.int .i64 (0:Int)),(.int .i64 (0:Int)),(.int .i64 (0:Int)),(.int .i64 (0:Int)),(.bool false),(.string (⟨#[]⟩:ByteArray)),(.string (⟨#[]⟩:ByteArray)),(.string (⟨#[]⟩:ByteArray)),(.string (⟨#[]⟩:ByteArray)),(.slice none 0 0),(.slice none 0 0),(.slice none 0 0),(.slice none 0 0)]
abbrev a58_ (x:T_api_Record) (vq_14 vq_15 vq_16 vq_17:Value):Value:= .agg (l58 x vq_14 vq_15 vq_16 vq_17).toArray
abbrev l55 (x:T_api_Batch) (vq_2:Value):List Value:=[(.int .i64 x.Term),(.int .i64 x.Base),vq_2]
abbrev a55_ (x:T_api_Batch) (vq_2:Value):Value:= .agg (l55 x vq_2).toArray
abbrev l25 (x:T_api_Rpc) (vq_11 vq_14:Value):List Value:=[(.int .i64 x.Kind),(.int .i64 x.From),(.int .i64 x.To),(.int .i64 x.Term),(.bool x.Pre),(.bool x.Ok),(.int .i64 x.Leader),(.int .i64 x.At),(.int .i64 x.AtTerm),(.int .i64 x.High),(.int .i64 x.Code),vq_11,(.int .i64 x.Size),(.int .i64 x.Pos),vq_14]
abbrev z25_:List Value:=[(.int .i64 (0:Int)),(.int .i64 (0:Int)),(.int .i64 (0:Int)),(.int .i64 (0:Int)),(.bool false),(.bool false),(.int .i64 (0:Int)),(.int .i64 (0:Int)),(.int .i64 (0:Int)),(.int .i64 (0:Int)),(.int .i64 (0:Int)),(.slice none 0 0),(.int .i64 (0:Int)),(.int .i64 (0:Int)),(.slice none 0 0)]
abbrev a25_ (x:T_api_Rpc) (vq_11 vq_14:Value):Value:= .agg (l25 x vq_11 vq_14).toArray
abbrev l110 (x:T_wire_Reader) (vq_0:Value):List Value:=[vq_0,(.int .i64 x.at_),(GV x.err)]
abbrev a110_ (x:T_wire_Reader) (vq_0:Value):Value:= .agg (l110 x vq_0).toArray
abbrev l108 (x:T_api_Fault):List Value:=[(.string x.Op),(.int .i64 x.At),(GV x.Err)]
abbrev a108_ (x:T_api_Fault):Value:= .agg (l108 x).toArray
abbrev l40 (x:T_ref05_Wrong):List Value:=[(.string x.Op),(.int .i64 x.At),(.int .i64 x.Code)]
abbrev a40_ (x:T_ref05_Wrong):Value:= .agg (l40 x).toArray
abbrev l42 (x:T_ref06_Wrong):List Value:=[(.string x.W.Op),(.int .i64 x.W.At),(.int .i64 x.W.Code),(.int .i64 x.Record)]
abbrev z42_:List Value:=[(.string (⟨#[]⟩:ByteArray)),(.int .i64 (0:Int)),(.int .i64 (0:Int)),(.int .i64 (0:Int))]
abbrev a42_ (x:T_ref06_Wrong):Value:= .agg (l42 x).toArray
abbrev l96 (x:T_ref02_State):List Value:=[(.int .i64 x.At),(.int .i64 x.Code),(.string x.Op),(.int .i64 x.Where)]
abbrev z96_:List Value:=[(.int .i64 (0:Int)),(.int .i64 (0:Int)),(.string (⟨#[]⟩:ByteArray)),(.int .i64 (0:Int))]
abbrev a96_ (x:T_ref02_State):Value:= .agg (l96 x).toArray
abbrev l134 (x:T_ref02_Ask):List Value:=[(.int .i64 x.Kind),(.int .i64 x.Most),(.int .i64 x.Each)]
abbrev a134_ (x:T_ref02_Ask):Value:= .agg (l134 x).toArray
abbrev l130 (x:T_ref02_Got) (vq_2 vq_3:Value):List Value:=[(.int .u64 x.Num),(.bool x.Flag),vq_2,vq_3]
abbrev a130_ (x:T_ref02_Got) (vq_2 vq_3:Value):Value:= .agg (l130 x vq_2 vq_3).toArray
abbrev l98 (x:T_ref05_Cursor) (vq_0:Value):List Value:=[vq_0,(.int .i64 x.S.At),(.int .i64 x.S.Code),(.string x.S.Op),(.int .i64 x.S.Where)]
abbrev z98_:List Value:=[(.slice none 0 0),(.int .i64 (0:Int)),(.int .i64 (0:Int)),(.string (⟨#[]⟩:ByteArray)),(.int .i64 (0:Int))]
abbrev a98_ (x:T_ref05_Cursor) (vq_0:Value):Value:= .agg (l98 x vq_0).toArray
end Go.Proofs.YtkflneabcannnaaGreatDoor.G
