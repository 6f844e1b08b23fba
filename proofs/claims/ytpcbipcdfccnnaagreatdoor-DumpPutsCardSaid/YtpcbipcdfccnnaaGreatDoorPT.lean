/- The values of the structs of this program, and what their cells are. Printed by a program of the session (gen). -/
import Derived.Test.YtpcbipcdfccnnaaGreatDoorKEq
import Derived.Test.YtpcbipcdfccnnaaGreatDoorKRefl
namespace Go.Proofs.YtpcbipcdfccnnaaGreatDoor.G
open Go Go.KK
abbrev GV (e:GErr):Value:=e.val 34 114 0
abbrev Q69:Kd GErr:=Q6A 34 114 0
structure QaE where
 Id:Int
 Epoch:Int
 Rack:ByteArray
 Fenced:Bool
 Leaving:Bool
instance:Inhabited QaE:=⟨⟨default,default,⟨#[]⟩,default,default⟩⟩
def QaD:Kd QaE:=Kd.iso (fun x=>(x.Id,x.Epoch,x.Rack,x.Fenced,x.Leaving,())) (Kd.cons (Kd.int .i64) (Kd.cons (Kd.int .i64) (Kd.cons Kd.str (Kd.cons Kd.bool (Kd.cons Kd.bool Kd.nil)))))
theorem Qa2 {M:IM}{cs:List Value}{x:QaE}(h:QaD.rc M cs x):cs=[(.int .i64 x.Id),(.int .i64 x.Epoch),(.string x.Rack),(.bool x.Fenced),(.bool x.Leaving)]:=by
 obtain ⟨c0,d0,rfl,rfl,⟨c1,d1,rfl,rfl,⟨c2,d2,rfl,rfl,⟨c3,d3,rfl,rfl,⟨c4,d4,rfl,rfl,rfl⟩⟩⟩⟩⟩:=h
 exact rfl
theorem QeP {M:IM}{x:QaE}:QaD.rc M [(.int .i64 x.Id),(.int .i64 x.Epoch),(.string x.Rack),(.bool x.Fenced),(.bool x.Leaving)] x:=by
 exact⟨_,_,rfl,rfl,⟨_,_,rfl,rfl,⟨_,_,rfl,rfl,⟨_,_,rfl,rfl,⟨_,_,rfl,rfl,rfl⟩⟩⟩⟩⟩
theorem Q0B:QaD.Flat:=fun M M' cs x h=>by obtain rfl:=Qa2 h;exact QeP
structure QaH where
 Ids:(List Int)
 Isr:(List Int)
 Leader:Int
 Epoch:Int
 Add:(List Int)
 Drop:(List Int)
instance:Inhabited QaH:=⟨⟨default,default,default,default,default,default⟩⟩
def QbF:Kd QaH:=Kd.iso (fun x=>(x.Ids,x.Isr,x.Leader,x.Epoch,x.Add,x.Drop,())) (Kd.cons (Kd.slice (Kd.int .i64)) (Kd.cons (Kd.slice (Kd.int .i64)) (Kd.cons (Kd.int .i64) (Kd.cons (Kd.int .i64) (Kd.cons (Kd.slice (Kd.int .i64)) (Kd.cons (Kd.slice (Kd.int .i64)) Kd.nil))))))
theorem Qb7 {M:IM}{cs:List Value}{x:QaH}(h:QbF.rc M cs x):∃ vq_0 vq_1 vq_4 vq_5,cs=[vq_0,vq_1,(.int .i64 x.Leader),(.int .i64 x.Epoch),vq_4,vq_5]∧RS (Kd.int .i64) M vq_0 x.Ids∧RS (Kd.int .i64) M vq_1 x.Isr∧RS (Kd.int .i64) M vq_4 x.Add∧RS (Kd.int .i64) M vq_5 x.Drop:=by
 obtain ⟨c0,d0,rfl,⟨v0,rfl,k0⟩,⟨c1,d1,rfl,⟨v1,rfl,k1⟩,⟨c2,d2,rfl,rfl,⟨c3,d3,rfl,rfl,⟨c4,d4,rfl,⟨v4,rfl,k4⟩,⟨c5,d5,rfl,⟨v5,rfl,k5⟩,rfl⟩⟩⟩⟩⟩⟩:=h
 exact⟨v0,v1,v4,v5,rfl,k0,k1,k4,k5⟩
theorem QpD {M:IM}{x:QaH}{vq_0 vq_1 vq_4 vq_5:Value}(hq_0:RS (Kd.int .i64) M vq_0 x.Ids) (hq_1:RS (Kd.int .i64) M vq_1 x.Isr) (hq_4:RS (Kd.int .i64) M vq_4 x.Add) (hq_5:RS (Kd.int .i64) M vq_5 x.Drop):QbF.rc M [vq_0,vq_1,(.int .i64 x.Leader),(.int .i64 x.Epoch),vq_4,vq_5] x:=by
 exact⟨_,_,rfl,⟨_,rfl,hq_0⟩,⟨_,_,rfl,⟨_,rfl,hq_1⟩,⟨_,_,rfl,rfl,⟨_,_,rfl,rfl,⟨_,_,rfl,⟨_,rfl,hq_4⟩,⟨_,_,rfl,⟨_,rfl,hq_5⟩,rfl⟩⟩⟩⟩⟩⟩
structure QaC where
 Id:Int
 Name:ByteArray
 Parts:(List QaH)
instance:Inhabited QaC:=⟨⟨default,⟨#[]⟩,default⟩⟩
def QaG:Kd QaC:=Kd.iso (fun x=>(x.Id,x.Name,x.Parts,())) (Kd.cons (Kd.int .i64) (Kd.cons Kd.str (Kd.cons (Kd.slice QbF) Kd.nil)))
theorem QaN {M:IM}{cs:List Value}{x:QaC}(h:QaG.rc M cs x):∃ vq_2,cs=[(.int .i64 x.Id),(.string x.Name),vq_2]∧RS QbF M vq_2 x.Parts:=by
 obtain ⟨c0,d0,rfl,rfl,⟨c1,d1,rfl,rfl,⟨c2,d2,rfl,⟨v2,rfl,k2⟩,rfl⟩⟩⟩:=h
 exact⟨v2,rfl,k2⟩
theorem QjN {M:IM}{x:QaC}{vq_2:Value}(hq_2:RS QbF M vq_2 x.Parts):QaG.rc M [(.int .i64 x.Id),(.string x.Name),vq_2] x:=by
 exact⟨_,_,rfl,rfl,⟨_,_,rfl,rfl,⟨_,_,rfl,⟨_,rfl,hq_2⟩,rfl⟩⟩⟩
structure QaJ where
 Topic:Int
 Key:ByteArray
 Value:ByteArray
instance:Inhabited QaJ:=⟨⟨default,⟨#[]⟩,⟨#[]⟩⟩⟩
def QaF:Kd QaJ:=Kd.iso (fun x=>(x.Topic,x.Key,x.Value,())) (Kd.cons (Kd.int .i64) (Kd.cons Kd.str (Kd.cons Kd.str Kd.nil)))
theorem Qa8 {M:IM}{cs:List Value}{x:QaJ}(h:QaF.rc M cs x):cs=[(.int .i64 x.Topic),(.string x.Key),(.string x.Value)]:=by
 obtain ⟨c0,d0,rfl,rfl,⟨c1,d1,rfl,rfl,⟨c2,d2,rfl,rfl,rfl⟩⟩⟩:=h
 exact rfl
theorem QeQ {M:IM}{x:QaJ}:QaF.rc M [(.int .i64 x.Topic),(.string x.Key),(.string x.Value)] x:=by
 exact⟨_,_,rfl,rfl,⟨_,_,rfl,rfl,⟨_,_,rfl,rfl,rfl⟩⟩⟩
theorem Q0C:QaF.Flat:=fun M M' cs x h=>by obtain rfl:=Qa8 h;exact QeQ
structure QaK where
 Kind:Int
 Broker:Int
 Epoch:Int
 Topic:Int
 Part:Int
 Leader:Int
 Client:Int
 Serial:Int
 Code:Int
 Flag:Bool
 Name:ByteArray
 Key:ByteArray
 Value:ByteArray
 Rack:ByteArray
 Ids:(List Int)
 Isr:(List Int)
 Add:(List Int)
 Drop:(List Int)
instance:Inhabited QaK:=⟨⟨default,default,default,default,default,default,default,default,default,default,⟨#[]⟩,⟨#[]⟩,⟨#[]⟩,⟨#[]⟩,default,default,default,default⟩⟩
def QjO:Kd QaK:=Kd.iso (fun x=>(x.Kind,x.Broker,x.Epoch,x.Topic,x.Part,x.Leader,x.Client,x.Serial,x.Code,x.Flag,x.Name,x.Key,x.Value,x.Rack,x.Ids,x.Isr,x.Add,x.Drop,())) (Kd.cons (Kd.int .i64) (Kd.cons (Kd.int .i64) (Kd.cons (Kd.int .i64) (Kd.cons (Kd.int .i64) (Kd.cons (Kd.int .i64) (Kd.cons (Kd.int .i64) (Kd.cons (Kd.int .i64) (Kd.cons (Kd.int .i64) (Kd.cons (Kd.int .i64) (Kd.cons Kd.bool (Kd.cons Kd.str (Kd.cons Kd.str (Kd.cons Kd.str (Kd.cons Kd.str (Kd.cons (Kd.slice (Kd.int .i64)) (Kd.cons (Kd.slice (Kd.int .i64)) (Kd.cons (Kd.slice (Kd.int .i64)) (Kd.cons (Kd.slice (Kd.int .i64)) Kd.nil))))))))))))))))))
theorem QrF {M:IM}{cs:List Value}{x:QaK}(h:QjO.rc M cs x):∃ vq_14 vq_15 vq_16 vq_17,cs=[(.int .i64 x.Kind),(.int .i64 x.Broker),(.int .i64 x.Epoch),(.int .i64 x.Topic),(.int .i64 x.Part),(.int .i64 x.Leader),(.int .i64 x.Client),(.int .i64 x.Serial),(.int .i64 x.Code),(.bool x.Flag),(.string x.Name),(.string x.Key),(.string x.Value),(.string x.Rack),vq_14,vq_15,vq_16,vq_17]∧RS (Kd.int .i64) M vq_14 x.Ids∧RS (Kd.int .i64) M vq_15 x.Isr∧RS (Kd.int .i64) M vq_16 x.Add∧RS (Kd.int .i64) M vq_17 x.Drop:=by
 obtain ⟨c0,d0,rfl,rfl,⟨c1,d1,rfl,rfl,⟨c2,d2,rfl,rfl,⟨c3,d3,rfl,rfl,⟨c4,d4,rfl,rfl,⟨c5,d5,rfl,rfl,⟨c6,d6,rfl,rfl,⟨c7,d7,rfl,rfl,⟨c8,d8,rfl,rfl,⟨c9,d9,rfl,rfl,⟨c10,d10,rfl,rfl,⟨c11,d11,rfl,rfl,⟨c12,d12,rfl,rfl,⟨c13,d13,rfl,rfl,⟨c14,d14,rfl,⟨v14,rfl,k14⟩,⟨c15,d15,rfl,⟨v15,rfl,k15⟩,⟨c16,d16,rfl,⟨v16,rfl,k16⟩,⟨c17,d17,rfl,⟨v17,rfl,k17⟩,rfl⟩⟩⟩⟩⟩⟩⟩⟩⟩⟩⟩⟩⟩⟩⟩⟩⟩⟩:=h
 exact⟨v14,v15,v16,v17,rfl,k14,k15,k16,k17⟩
theorem QeR {M:IM}{x:QaK}{vq_14 vq_15 vq_16 vq_17:Value}(hq_14:RS (Kd.int .i64) M vq_14 x.Ids) (hq_15:RS (Kd.int .i64) M vq_15 x.Isr) (hq_16:RS (Kd.int .i64) M vq_16 x.Add) (hq_17:RS (Kd.int .i64) M vq_17 x.Drop):QjO.rc M [(.int .i64 x.Kind),(.int .i64 x.Broker),(.int .i64 x.Epoch),(.int .i64 x.Topic),(.int .i64 x.Part),(.int .i64 x.Leader),(.int .i64 x.Client),(.int .i64 x.Serial),(.int .i64 x.Code),(.bool x.Flag),(.string x.Name),(.string x.Key),(.string x.Value),(.string x.Rack),vq_14,vq_15,vq_16,vq_17] x:=by
 exact⟨_,_,rfl,rfl,⟨_,_,rfl,rfl,⟨_,_,rfl,rfl,⟨_,_,rfl,rfl,⟨_,_,rfl,rfl,⟨_,_,rfl,rfl,⟨_,_,rfl,rfl,⟨_,_,rfl,rfl,⟨_,_,rfl,rfl,⟨_,_,rfl,rfl,⟨_,_,rfl,rfl,⟨_,_,rfl,rfl,⟨_,_,rfl,rfl,⟨_,_,rfl,rfl,⟨_,_,rfl,⟨_,rfl,hq_14⟩,⟨_,_,rfl,⟨_,rfl,hq_15⟩,⟨_,_,rfl,⟨_,rfl,hq_16⟩,⟨_,_,rfl,⟨_,rfl,hq_17⟩,rfl⟩⟩⟩⟩⟩⟩⟩⟩⟩⟩⟩⟩⟩⟩⟩⟩⟩⟩
structure Qa4 where
 Client:Int
 Serial:Int
 Code:Int
instance:Inhabited Qa4:=⟨⟨default,default,default⟩⟩
def QaI:Kd Qa4:=Kd.iso (fun x=>(x.Client,x.Serial,x.Code,())) (Kd.cons (Kd.int .i64) (Kd.cons (Kd.int .i64) (Kd.cons (Kd.int .i64) Kd.nil)))
theorem Qb8 {M:IM}{cs:List Value}{x:Qa4}(h:QaI.rc M cs x):cs=[(.int .i64 x.Client),(.int .i64 x.Serial),(.int .i64 x.Code)]:=by
 obtain ⟨c0,d0,rfl,rfl,⟨c1,d1,rfl,rfl,⟨c2,d2,rfl,rfl,rfl⟩⟩⟩:=h
 exact rfl
theorem QlY {M:IM}{x:Qa4}:QaI.rc M [(.int .i64 x.Client),(.int .i64 x.Serial),(.int .i64 x.Code)] x:=by
 exact⟨_,_,rfl,rfl,⟨_,_,rfl,rfl,⟨_,_,rfl,rfl,rfl⟩⟩⟩
theorem Q1X:QaI.Flat:=fun M M' cs x h=>by obtain rfl:=Qb8 h;exact QlY
structure QaA where
 Brokers:(List QaE)
 Topics:(List QaC)
 Configs:(List QaJ)
 Done:(List Qa4)
 Last:Int
instance:Inhabited QaA:=⟨⟨default,default,default,default,default⟩⟩
def QnS:Kd QaA:=Kd.iso (fun x=>(x.Brokers,x.Topics,x.Configs,x.Done,x.Last,())) (Kd.cons (Kd.slice QaD) (Kd.cons (Kd.slice QaG) (Kd.cons (Kd.slice QaF) (Kd.cons (Kd.slice QaI) (Kd.cons (Kd.int .i64) Kd.nil)))))
theorem Q06 {M:IM}{cs:List Value}{x:QaA}(h:QnS.rc M cs x):∃ vq_0 vq_1 vq_2 vq_3,cs=[vq_0,vq_1,vq_2,vq_3,(.int .i64 x.Last)]∧RS QaD M vq_0 x.Brokers∧RS QaG M vq_1 x.Topics∧RS QaF M vq_2 x.Configs∧RS QaI M vq_3 x.Done:=by
 obtain ⟨c0,d0,rfl,⟨v0,rfl,k0⟩,⟨c1,d1,rfl,⟨v1,rfl,k1⟩,⟨c2,d2,rfl,⟨v2,rfl,k2⟩,⟨c3,d3,rfl,⟨v3,rfl,k3⟩,⟨c4,d4,rfl,rfl,rfl⟩⟩⟩⟩⟩:=h
 exact⟨v0,v1,v2,v3,rfl,k0,k1,k2,k3⟩
theorem Q11 {M:IM}{x:QaA}{vq_0 vq_1 vq_2 vq_3:Value}(hq_0:RS QaD M vq_0 x.Brokers) (hq_1:RS QaG M vq_1 x.Topics) (hq_2:RS QaF M vq_2 x.Configs) (hq_3:RS QaI M vq_3 x.Done):QnS.rc M [vq_0,vq_1,vq_2,vq_3,(.int .i64 x.Last)] x:=by
 exact⟨_,_,rfl,⟨_,rfl,hq_0⟩,⟨_,_,rfl,⟨_,rfl,hq_1⟩,⟨_,_,rfl,⟨_,rfl,hq_2⟩,⟨_,_,rfl,⟨_,rfl,hq_3⟩,⟨_,_,rfl,rfl,rfl⟩⟩⟩⟩⟩
structure QaV where
 Op:ByteArray
 At:Int
 Code:Int
instance:Inhabited QaV:=⟨⟨⟨#[]⟩,default,default⟩⟩
def QlZ:Kd QaV:=Kd.iso (fun x=>(x.Op,x.At,x.Code,())) (Kd.cons Kd.str (Kd.cons (Kd.int .i64) (Kd.cons (Kd.int .i64) Kd.nil)))
theorem Qp3 {M:IM}{cs:List Value}{x:QaV}(h:QlZ.rc M cs x):cs=[(.string x.Op),(.int .i64 x.At),(.int .i64 x.Code)]:=by
 obtain ⟨c0,d0,rfl,rfl,⟨c1,d1,rfl,rfl,⟨c2,d2,rfl,rfl,rfl⟩⟩⟩:=h
 exact rfl
theorem QsN {M:IM}{x:QaV}:QlZ.rc M [(.string x.Op),(.int .i64 x.At),(.int .i64 x.Code)] x:=by
 exact⟨_,_,rfl,rfl,⟨_,_,rfl,rfl,⟨_,_,rfl,rfl,rfl⟩⟩⟩
theorem QzA:QlZ.Flat:=fun M M' cs x h=>by obtain rfl:=Qp3 h;exact QsN
structure QaB where
 b:(List Int)
 at_:Int
 err:GErr
instance:Inhabited QaB:=⟨⟨default,default,default⟩⟩
def QpE:Kd QaB:=Kd.iso (fun x=>(x.b,x.at_,x.err,())) (Kd.cons (Kd.slice (Kd.int .u8)) (Kd.cons (Kd.int .i64) (Kd.cons Q69 Kd.nil)))
theorem QzB {M:IM}{cs:List Value}{x:QaB}(h:QpE.rc M cs x):∃ vq_0,cs=[vq_0,(.int .i64 x.at_),(GV x.err)]∧RS (Kd.int .u8) M vq_0 x.b:=by
 obtain ⟨c0,d0,rfl,⟨v0,rfl,k0⟩,⟨c1,d1,rfl,rfl,⟨c2,d2,rfl,rfl,rfl⟩⟩⟩:=h
 exact⟨v0,rfl,k0⟩
theorem Q07 {M:IM}{x:QaB}{vq_0:Value}(hq_0:RS (Kd.int .u8) M vq_0 x.b):QpE.rc M [vq_0,(.int .i64 x.at_),(GV x.err)] x:=by
 exact⟨_,_,rfl,⟨_,rfl,hq_0⟩,⟨_,_,rfl,rfl,⟨_,_,rfl,rfl,rfl⟩⟩⟩
structure QbR where
 Op:ByteArray
 At:Int
 Err:GErr
instance:Inhabited QbR:=⟨⟨⟨#[]⟩,default,default⟩⟩
def QnT:Kd QbR:=Kd.iso (fun x=>(x.Op,x.At,x.Err,())) (Kd.cons Kd.str (Kd.cons (Kd.int .i64) (Kd.cons Q69 Kd.nil)))
theorem QsO {M:IM}{cs:List Value}{x:QbR}(h:QnT.rc M cs x):cs=[(.string x.Op),(.int .i64 x.At),(GV x.Err)]:=by
 obtain ⟨c0,d0,rfl,rfl,⟨c1,d1,rfl,rfl,⟨c2,d2,rfl,rfl,rfl⟩⟩⟩:=h
 exact rfl
theorem Qu7 {M:IM}{x:QbR}:QnT.rc M [(.string x.Op),(.int .i64 x.At),(GV x.Err)] x:=by
 exact⟨_,_,rfl,rfl,⟨_,_,rfl,rfl,⟨_,_,rfl,rfl,rfl⟩⟩⟩
theorem Q08:QnT.Flat:=fun M M' cs x h=>by obtain rfl:=QsO h;exact Qu7
structure QaL where
 Op:ByteArray
 At:Int
 Code:Int
instance:Inhabited QaL:=⟨⟨⟨#[]⟩,default,default⟩⟩
def Ql0:Kd QaL:=Kd.iso (fun x=>(x.Op,x.At,x.Code,())) (Kd.cons Kd.str (Kd.cons (Kd.int .i64) (Kd.cons (Kd.int .i64) Kd.nil)))
theorem Qp4 {M:IM}{cs:List Value}{x:QaL}(h:Ql0.rc M cs x):cs=[(.string x.Op),(.int .i64 x.At),(.int .i64 x.Code)]:=by
 obtain ⟨c0,d0,rfl,rfl,⟨c1,d1,rfl,rfl,⟨c2,d2,rfl,rfl,rfl⟩⟩⟩:=h
 exact rfl
theorem QsP {M:IM}{x:QaL}:Ql0.rc M [(.string x.Op),(.int .i64 x.At),(.int .i64 x.Code)] x:=by
 exact⟨_,_,rfl,rfl,⟨_,_,rfl,rfl,⟨_,_,rfl,rfl,rfl⟩⟩⟩
theorem QzC:Ql0.Flat:=fun M M' cs x h=>by obtain rfl:=Qp4 h;exact QsP
abbrev pt (b o:Nat):Value:= .pointer (some ⟨b,o,none⟩)
abbrev l71 (x:QaE):List Value:=[(.int .i64 x.Id),(.int .i64 x.Epoch),(.string x.Rack),(.bool x.Fenced),(.bool x.Leaving)]
abbrev z71_:List Value:=[(.int .i64 (0:Int)),(.int .i64 (0:Int)),(.string (⟨#[]⟩:ByteArray)),(.bool false),(.bool false)]
abbrev a71_ (x:QaE):Value:= .agg (l71 x).toArray
abbrev l58 (x:QaH) (vq_0 vq_1 vq_4 vq_5:Value):List Value:=[vq_0,vq_1,(.int .i64 x.Leader),(.int .i64 x.Epoch),vq_4,vq_5]
abbrev z58_:List Value:=[(.slice none 0 0),(.slice none 0 0),(.int .i64 (0:Int)),(.int .i64 (0:Int)),(.slice none 0 0),(.slice none 0 0)]
abbrev a58_ (x:QaH) (vq_0 vq_1 vq_4 vq_5:Value):Value:= .agg (l58 x vq_0 vq_1 vq_4 vq_5).toArray
abbrev l55 (x:QaC) (vq_2:Value):List Value:=[(.int .i64 x.Id),(.string x.Name),vq_2]
abbrev a55_ (x:QaC) (vq_2:Value):Value:= .agg (l55 x vq_2).toArray
abbrev l76 (x:QaJ):List Value:=[(.int .i64 x.Topic),(.string x.Key),(.string x.Value)]
abbrev z76_:List Value:=[(.int .i64 (0:Int)),(.string (⟨#[]⟩:ByteArray)),(.string (⟨#[]⟩:ByteArray))]
abbrev a76_ (x:QaJ):Value:= .agg (l76 x).toArray
abbrev l111 (x:QaK) (vq_14 vq_15 vq_16 vq_17:Value):List Value:=[(.int .i64 x.Kind),(.int .i64 x.Broker),(.int .i64 x.Epoch),(.int .i64 x.Topic),(.int .i64 x.Part),(.int .i64 x.Leader),(.int .i64 x.Client),(.int .i64 x.Serial),(.int .i64 x.Code),(.bool x.Flag),(.string x.Name),(.string x.Key),(.string x.Value),(.string x.Rack),vq_14,vq_15,vq_16,vq_17]
abbrev JaT:List Value:=[(.int .i64 (0:Int)),(.int .i64 (0:Int)),(.int .i64 (0:Int)),(.int .i64 (0:Int)),(.int .i64 (0:Int)),(.int .i64 (0:Int)),(.int .i64 (0:Int)),(.int .i64 (0:Int)),(.int .i64 (0:Int)),(.bool false),(.string (⟨#[]⟩:ByteArray)),(.string (⟨#[]⟩:ByteArray)),(.string (⟨#[]⟩:ByteArray)),(.string (⟨#[]⟩:ByteArray)),(.slice none 0 0),(.slice none 0 0),(.slice none 0 0),(.slice none 0 0)]
abbrev QjY (x:QaK) (vq_14 vq_15 vq_16 vq_17:Value):Value:= .agg (l111 x vq_14 vq_15 vq_16 vq_17).toArray
abbrev l67 (x:Qa4):List Value:=[(.int .i64 x.Client),(.int .i64 x.Serial),(.int .i64 x.Code)]
abbrev a67_ (x:Qa4):Value:= .agg (l67 x).toArray
abbrev l27 (x:QaA) (vq_0 vq_1 vq_2 vq_3:Value):List Value:=[vq_0,vq_1,vq_2,vq_3,(.int .i64 x.Last)]
abbrev z27_:List Value:=[(.slice none 0 0),(.slice none 0 0),(.slice none 0 0),(.slice none 0 0),(.int .i64 (0:Int))]
abbrev a27_ (x:QaA) (vq_0 vq_1 vq_2 vq_3:Value):Value:= .agg (l27 x vq_0 vq_1 vq_2 vq_3).toArray
abbrev l144 (x:QaV):List Value:=[(.string x.Op),(.int .i64 x.At),(.int .i64 x.Code)]
abbrev Q32 (x:QaV):Value:= .agg (l144 x).toArray
abbrev l130 (x:QaB) (vq_0:Value):List Value:=[vq_0,(.int .i64 x.at_),(GV x.err)]
abbrev JaU (x:QaB) (vq_0:Value):Value:= .agg (l130 x vq_0).toArray
abbrev l114 (x:QbR):List Value:=[(.string x.Op),(.int .i64 x.At),(GV x.Err)]
abbrev Q7A (x:QbR):Value:= .agg (l114 x).toArray
abbrev l36 (x:QaL):List Value:=[(.string x.Op),(.int .i64 x.At),(.int .i64 x.Code)]
abbrev a36_ (x:QaL):Value:= .agg (l36 x).toArray
end Go.Proofs.YtpcbipcdfccnnaaGreatDoor.G
