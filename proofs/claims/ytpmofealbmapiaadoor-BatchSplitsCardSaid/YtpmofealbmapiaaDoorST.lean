/- The values of the structs of this program, and what their cells are. Printed by a program of the session (gen). -/
import Derived.Test.YtpmofealbmapiaaDoorKEq
import Derived.Test.YtpmofealbmapiaaDoorKRefl
namespace Go.Proofs.YtpmofealbmapiaaDoor.G
open Go Go.KK
abbrev GV (e:GErr):Value:=e.val 47 74 0
abbrev kdErr:Kd GErr:=kdErrOf 47 74 0
structure T_api_Record where
 Kind:Int
 Broker:Int
 Epoch:Int
 Topic:Int
 Part:Int
 Leader:Int
 Client:Int
 Serial:Int
 Code:Int
 Flag:Bool
 Name:ByteArray
 Key:ByteArray
 Value:ByteArray
 Rack:ByteArray
 Ids:(List Int)
 Isr:(List Int)
 Add:(List Int)
 Drop:(List Int)
instance:Inhabited T_api_Record:=⟨⟨default,default,default,default,default,default,default,default,default,default,⟨#[]⟩,⟨#[]⟩,⟨#[]⟩,⟨#[]⟩,default,default,default,default⟩⟩
def kd_api_Record:Kd T_api_Record:=Kd.iso (fun x=>(x.Kind,x.Broker,x.Epoch,x.Topic,x.Part,x.Leader,x.Client,x.Serial,x.Code,x.Flag,x.Name,x.Key,x.Value,x.Rack,x.Ids,x.Isr,x.Add,x.Drop,())) (Kd.cons (Kd.int .i64) (Kd.cons (Kd.int .i64) (Kd.cons (Kd.int .i64) (Kd.cons (Kd.int .i64) (Kd.cons (Kd.int .i64) (Kd.cons (Kd.int .i64) (Kd.cons (Kd.int .i64) (Kd.cons (Kd.int .i64) (Kd.cons (Kd.int .i64) (Kd.cons Kd.bool (Kd.cons Kd.str (Kd.cons Kd.str (Kd.cons Kd.str (Kd.cons Kd.str (Kd.cons (Kd.slice (Kd.int .i64)) (Kd.cons (Kd.slice (Kd.int .i64)) (Kd.cons (Kd.slice (Kd.int .i64)) (Kd.cons (Kd.slice (Kd.int .i64)) Kd.nil))))))))))))))))))
theorem kd_api_Record_open {M:IM}{cs:List Value}{x:T_api_Record}(h:kd_api_Record.rc M cs x):∃ vq_14 vq_15 vq_16 vq_17,cs=[(.int .i64 x.Kind),(.int .i64 x.Broker),(.int .i64 x.Epoch),(.int .i64 x.Topic),(.int .i64 x.Part),(.int .i64 x.Leader),(.int .i64 x.Client),(.int .i64 x.Serial),(.int .i64 x.Code),(.bool x.Flag),(.string x.Name),(.string x.Key),(.string x.Value),(.string x.Rack),vq_14,vq_15,vq_16,vq_17]∧RS (Kd.int .i64) M vq_14 x.Ids∧RS (Kd.int .i64) M vq_15 x.Isr∧RS (Kd.int .i64) M vq_16 x.Add∧RS (Kd.int .i64) M vq_17 x.Drop:=by
 obtain ⟨c0,d0,rfl,rfl,⟨c1,d1,rfl,rfl,⟨c2,d2,rfl,rfl,⟨c3,d3,rfl,rfl,⟨c4,d4,rfl,rfl,⟨c5,d5,rfl,rfl,⟨c6,d6,rfl,rfl,⟨c7,d7,rfl,rfl,⟨c8,d8,rfl,rfl,⟨c9,d9,rfl,rfl,⟨c10,d10,rfl,rfl,⟨c11,d11,rfl,rfl,⟨c12,d12,rfl,rfl,⟨c13,d13,rfl,rfl,⟨c14,d14,rfl,⟨v14,rfl,k14⟩,⟨c15,d15,rfl,⟨v15,rfl,k15⟩,⟨c16,d16,rfl,⟨v16,rfl,k16⟩,⟨c17,d17,rfl,⟨v17,rfl,k17⟩,rfl⟩⟩⟩⟩⟩⟩⟩⟩⟩⟩⟩⟩⟩⟩⟩⟩⟩⟩:=h
 exact⟨v14,v15,v16,v17,rfl,k14,k15,k16,k17⟩
theorem kd_api_Record_mk {M:IM}{x:T_api_Record}{vq_14 vq_15 vq_16 vq_17:Value}(hq_14:RS (Kd.int .i64) M vq_14 x.Ids) (hq_15:RS (Kd.int .i64) M vq_15 x.Isr) (hq_16:RS (Kd.int .i64) M vq_16 x.Add) (hq_17:RS (Kd.int .i64) M vq_17 x.Drop):kd_api_Record.rc M [(.int .i64 x.Kind),(.int .i64 x.Broker),(.int .i64 x.Epoch),(.int .i64 x.Topic),(.int .i64 x.Part),(.int .i64 x.Leader),(.int .i64 x.Client),(.int .i64 x.Serial),(.int .i64 x.Code),(.bool x.Flag),(.string x.Name),(.string x.Key),(.string x.Value),(.string x.Rack),vq_14,vq_15,vq_16,vq_17] x:=by
 exact⟨_,_,rfl,rfl,⟨_,_,rfl,rfl,⟨_,_,rfl,rfl,⟨_,_,rfl,rfl,⟨_,_,rfl,rfl,⟨_,_,rfl,rfl,⟨_,_,rfl,rfl,⟨_,_,rfl,rfl,⟨_,_,rfl,rfl,⟨_,_,rfl,rfl,⟨_,_,rfl,rfl,⟨_,_,rfl,rfl,⟨_,_,rfl,rfl,⟨_,_,rfl,rfl,⟨_,_,rfl,⟨_,rfl,hq_14⟩,⟨_,_,rfl,⟨_,rfl,hq_15⟩,⟨_,_,rfl,⟨_,rfl,hq_16⟩,⟨_,_,rfl,⟨_,rfl,hq_17⟩,rfl⟩⟩⟩⟩⟩⟩⟩⟩⟩⟩⟩⟩⟩⟩⟩⟩⟩⟩
structure T_api_Batch where
 Term:Int
 Base:Int
 Records:(List T_api_Record)
instance:Inhabited T_api_Batch:=⟨⟨default,default,default⟩⟩
def kd_api_Batch:Kd T_api_Batch:=Kd.iso (fun x=>(x.Term,x.Base,x.Records,())) (Kd.cons (Kd.int .i64) (Kd.cons (Kd.int .i64) (Kd.cons (Kd.slice kd_api_Record) Kd.nil)))
theorem kd_api_Batch_open {M:IM}{cs:List Value}{x:T_api_Batch}(h:kd_api_Batch.rc M cs x):∃ vq_2,cs=[(.int .i64 x.Term),(.int .i64 x.Base),vq_2]∧RS kd_api_Record M vq_2 x.Records:=by
 obtain ⟨c0,d0,rfl,rfl,⟨c1,d1,rfl,rfl,⟨c2,d2,rfl,⟨v2,rfl,k2⟩,rfl⟩⟩⟩:=h
 exact⟨v2,rfl,k2⟩
theorem kd_api_Batch_mk {M:IM}{x:T_api_Batch}{vq_2:Value}(hq_2:RS kd_api_Record M vq_2 x.Records):kd_api_Batch.rc M [(.int .i64 x.Term),(.int .i64 x.Base),vq_2] x:=by
 exact⟨_,_,rfl,rfl,⟨_,_,rfl,rfl,⟨_,_,rfl,⟨_,rfl,hq_2⟩,rfl⟩⟩⟩
structure T_wire_Reader where
 b:(List Int)
 at_:Int
 err:GErr
instance:Inhabited T_wire_Reader:=⟨⟨default,default,default⟩⟩
def kd_wire_Reader:Kd T_wire_Reader:=Kd.iso (fun x=>(x.b,x.at_,x.err,())) (Kd.cons (Kd.slice (Kd.int .u8)) (Kd.cons (Kd.int .i64) (Kd.cons kdErr Kd.nil)))
theorem kd_wire_Reader_open {M:IM}{cs:List Value}{x:T_wire_Reader}(h:kd_wire_Reader.rc M cs x):∃ vq_0,cs=[vq_0,(.int .i64 x.at_),(GV x.err)]∧RS (Kd.int .u8) M vq_0 x.b:=by
 obtain ⟨c0,d0,rfl,⟨v0,rfl,k0⟩,⟨c1,d1,rfl,rfl,⟨c2,d2,rfl,rfl,rfl⟩⟩⟩:=h
 exact⟨v0,rfl,k0⟩
theorem kd_wire_Reader_mk {M:IM}{x:T_wire_Reader}{vq_0:Value}(hq_0:RS (Kd.int .u8) M vq_0 x.b):kd_wire_Reader.rc M [vq_0,(.int .i64 x.at_),(GV x.err)] x:=by
 exact⟨_,_,rfl,⟨_,rfl,hq_0⟩,⟨_,_,rfl,rfl,⟨_,_,rfl,rfl,rfl⟩⟩⟩
structure T_api_Fault where
 Op:ByteArray
 At:Int
 Err:GErr
instance:Inhabited T_api_Fault:=⟨⟨⟨#[]⟩,default,default⟩⟩
def kd_api_Fault:Kd T_api_Fault:=Kd.iso (fun x=>(x.Op,x.At,x.Err,())) (Kd.cons Kd.str (Kd.cons (Kd.int .i64) (Kd.cons kdErr Kd.nil)))
theorem kd_api_Fault_open {M:IM}{cs:List Value}{x:T_api_Fault}(h:kd_api_Fault.rc M cs x):cs=[(.string x.Op),(.int .i64 x.At),(GV x.Err)]:=by
 obtain ⟨c0,d0,rfl,rfl,⟨c1,d1,rfl,rfl,⟨c2,d2,rfl,rfl,rfl⟩⟩⟩:=h
 exact rfl
theorem kd_api_Fault_mk {M:IM}{x:T_api_Fault}:kd_api_Fault.rc M [(.string x.Op),(.int .i64 x.At),(GV x.Err)] x:=by
 exact⟨_,_,rfl,rfl,⟨_,_,rfl,rfl,⟨_,_,rfl,rfl,rfl⟩⟩⟩
theorem kd_api_Fault_flat:kd_api_Fault.Flat:=fun M M' cs x h=>by obtain rfl:=kd_api_Fault_open h;exact kd_api_Fault_mk
abbrev pt (b o:Nat):Value:= .pointer (some ⟨b,o,none⟩)
abbrev l36 (x:T_api_Record) (vq_14 vq_15 vq_16 vq_17:Value):List Value:=[(.int .i64 x.Kind),(.int .i64 x.Broker),(.int .i64 x.Epoch),(.int .i64 x.Topic),(.int .i64 x.Part),(.int .i64 x.Leader),(.int .i64 x.Client),(.int .i64 x.Serial),(.int .i64 x.Code),(.bool x.Flag),(.string x.Name),(.string x.Key),(.string x.Value),(.string x.Rack),vq_14,vq_15,vq_16,vq_17]
abbrev z36_:List Value:=[(.int .i64 (0:Int)),(.int .i64 (0:Int)),(.int .i64 (0:Int)),(.int .i64 (0:Int)),(.int .i64 (0:Int)),(.int .i64 (0:Int)),(.int .i64 (0:Int)),(.int .i64 (0:Int)),(.int .i64 (0:Int)),(.bool false),(.string (⟨#[]⟩:ByteArray)),(.string (⟨#[]⟩:ByteArray)),(.string (⟨#[]⟩:ByteArray)),(.string (⟨#[]⟩:ByteArray)),(.slice none 0 0),(.slice none 0 0),(.slice none 0 0),(.slice none 0 0)]
abbrev a36_ (x:T_api_Record) (vq_14 vq_15 vq_16 vq_17:Value):Value:= .agg (l36 x vq_14 vq_15 vq_16 vq_17).toArray
abbrev l31 (x:T_api_Batch) (vq_2:Value):List Value:=[(.int .i64 x.Term),(.int .i64 x.Base),vq_2]
abbrev a31_ (x:T_api_Batch) (vq_2:Value):Value:= .agg (l31 x vq_2).toArray
abbrev l76 (x:T_wire_Reader) (vq_0:Value):List Value:=[vq_0,(.int .i64 x.at_),(GV x.err)]
abbrev a76_ (x:T_wire_Reader) (vq_0:Value):Value:= .agg (l76 x vq_0).toArray
abbrev l74 (x:T_api_Fault):List Value:=[(.string x.Op),(.int .i64 x.At),(GV x.Err)]
abbrev a74_ (x:T_api_Fault):Value:= .agg (l74 x).toArray
end Go.Proofs.YtpmofealbmapiaaDoor.G
