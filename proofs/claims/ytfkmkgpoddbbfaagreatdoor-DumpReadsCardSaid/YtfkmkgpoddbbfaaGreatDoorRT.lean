/- The values of the structs of this program, and what their cells are. Printed by a program of the session (gen). -/
import Derived.Test.YtfkmkgpoddbbfaaGreatDoorKEq
import Derived.Test.YtfkmkgpoddbbfaaGreatDoorKRefl
namespace Go.Proofs.YtfkmkgpoddbbfaaGreatDoor.G
open Go Go.KK
abbrev GV (e:GErr):Value:=e.val 34 114 0
abbrev Q5J:Kd GErr:=Q4B 34 114 0
structure QaO where
 Kind:Int
 Broker:Int
 Epoch:Int
 Topic:Int
 Part:Int
 Leader:Int
 Client:Int
 Serial:Int
 Code:Int
 Flag:Bool
 Name:ByteArray
 Key:ByteArray
 Value:ByteArray
 Rack:ByteArray
 Ids:(List Int)
 Isr:(List Int)
 Add:(List Int)
 Drop:(List Int)
instance:Inhabited QaO:=⟨⟨default,default,default,default,default,default,default,default,default,default,⟨#[]⟩,⟨#[]⟩,⟨#[]⟩,⟨#[]⟩,default,default,default,default⟩⟩
def Qi5:Kd QaO:=Kd.iso (fun x=>(x.Kind,x.Broker,x.Epoch,x.Topic,x.Part,x.Leader,x.Client,x.Serial,x.Code,x.Flag,x.Name,x.Key,x.Value,x.Rack,x.Ids,x.Isr,x.Add,x.Drop,())) (Kd.cons (Kd.int .i64) (Kd.cons (Kd.int .i64) (Kd.cons (Kd.int .i64) (Kd.cons (Kd.int .i64) (Kd.cons (Kd.int .i64) (Kd.cons (Kd.int .i64) (Kd.cons (Kd.int .i64) (Kd.cons (Kd.int .i64) (Kd.cons (Kd.int .i64) (Kd.cons Kd.bool (Kd.cons Kd.str (Kd.cons Kd.str (Kd.cons Kd.str (Kd.cons Kd.str (Kd.cons (Kd.slice (Kd.int .i64)) (Kd.cons (Kd.slice (Kd.int .i64)) (Kd.cons (Kd.slice (Kd.int .i64)) (Kd.cons (Kd.slice (Kd.int .i64)) Kd.nil))))))))))))))))))
theorem QrA {M:IM}{cs:List Value}{x:QaO}(h:Qi5.rc M cs x):∃ vq_14 vq_15 vq_16 vq_17,cs=[(.int .i64 x.Kind),(.int .i64 x.Broker),(.int .i64 x.Epoch),(.int .i64 x.Topic),(.int .i64 x.Part),(.int .i64 x.Leader),(.int .i64 x.Client),(.int .i64 x.Serial),(.int .i64 x.Code),(.bool x.Flag),(.string x.Name),(.string x.Key),(.string x.Value),(.string x.Rack),vq_14,vq_15,vq_16,vq_17]∧RS (Kd.int .i64) M vq_14 x.Ids∧RS (Kd.int .i64) M vq_15 x.Isr∧RS (Kd.int .i64) M vq_16 x.Add∧RS (Kd.int .i64) M vq_17 x.Drop:=by
 obtain ⟨c0,d0,rfl,rfl,⟨c1,d1,rfl,rfl,⟨c2,d2,rfl,rfl,⟨c3,d3,rfl,rfl,⟨c4,d4,rfl,rfl,⟨c5,d5,rfl,rfl,⟨c6,d6,rfl,rfl,⟨c7,d7,rfl,rfl,⟨c8,d8,rfl,rfl,⟨c9,d9,rfl,rfl,⟨c10,d10,rfl,rfl,⟨c11,d11,rfl,rfl,⟨c12,d12,rfl,rfl,⟨c13,d13,rfl,rfl,⟨c14,d14,rfl,⟨v14,rfl,k14⟩,⟨c15,d15,rfl,⟨v15,rfl,k15⟩,⟨c16,d16,rfl,⟨v16,rfl,k16⟩,⟨c17,d17,rfl,⟨v17,rfl,k17⟩,rfl⟩⟩⟩⟩⟩⟩⟩⟩⟩⟩⟩⟩⟩⟩⟩⟩⟩⟩:=h
 exact⟨v14,v15,v16,v17,rfl,k14,k15,k16,k17⟩
theorem Qe1 {M:IM}{x:QaO}{vq_14 vq_15 vq_16 vq_17:Value}(hq_14:RS (Kd.int .i64) M vq_14 x.Ids) (hq_15:RS (Kd.int .i64) M vq_15 x.Isr) (hq_16:RS (Kd.int .i64) M vq_16 x.Add) (hq_17:RS (Kd.int .i64) M vq_17 x.Drop):Qi5.rc M [(.int .i64 x.Kind),(.int .i64 x.Broker),(.int .i64 x.Epoch),(.int .i64 x.Topic),(.int .i64 x.Part),(.int .i64 x.Leader),(.int .i64 x.Client),(.int .i64 x.Serial),(.int .i64 x.Code),(.bool x.Flag),(.string x.Name),(.string x.Key),(.string x.Value),(.string x.Rack),vq_14,vq_15,vq_16,vq_17] x:=by
 exact⟨_,_,rfl,rfl,⟨_,_,rfl,rfl,⟨_,_,rfl,rfl,⟨_,_,rfl,rfl,⟨_,_,rfl,rfl,⟨_,_,rfl,rfl,⟨_,_,rfl,rfl,⟨_,_,rfl,rfl,⟨_,_,rfl,rfl,⟨_,_,rfl,rfl,⟨_,_,rfl,rfl,⟨_,_,rfl,rfl,⟨_,_,rfl,rfl,⟨_,_,rfl,rfl,⟨_,_,rfl,⟨_,rfl,hq_14⟩,⟨_,_,rfl,⟨_,rfl,hq_15⟩,⟨_,_,rfl,⟨_,rfl,hq_16⟩,⟨_,_,rfl,⟨_,rfl,hq_17⟩,rfl⟩⟩⟩⟩⟩⟩⟩⟩⟩⟩⟩⟩⟩⟩⟩⟩⟩⟩
structure QaD where
 Id:Int
 Epoch:Int
 Rack:ByteArray
 Fenced:Bool
 Leaving:Bool
instance:Inhabited QaD:=⟨⟨default,default,⟨#[]⟩,default,default⟩⟩
def QaG:Kd QaD:=Kd.iso (fun x=>(x.Id,x.Epoch,x.Rack,x.Fenced,x.Leaving,())) (Kd.cons (Kd.int .i64) (Kd.cons (Kd.int .i64) (Kd.cons Kd.str (Kd.cons Kd.bool (Kd.cons Kd.bool Kd.nil)))))
theorem QbB {M:IM}{cs:List Value}{x:QaD}(h:QaG.rc M cs x):cs=[(.int .i64 x.Id),(.int .i64 x.Epoch),(.string x.Rack),(.bool x.Fenced),(.bool x.Leaving)]:=by
 obtain ⟨c0,d0,rfl,rfl,⟨c1,d1,rfl,rfl,⟨c2,d2,rfl,rfl,⟨c3,d3,rfl,rfl,⟨c4,d4,rfl,rfl,rfl⟩⟩⟩⟩⟩:=h
 exact rfl
theorem Qd3 {M:IM}{x:QaD}:QaG.rc M [(.int .i64 x.Id),(.int .i64 x.Epoch),(.string x.Rack),(.bool x.Fenced),(.bool x.Leaving)] x:=by
 exact⟨_,_,rfl,rfl,⟨_,_,rfl,rfl,⟨_,_,rfl,rfl,⟨_,_,rfl,rfl,⟨_,_,rfl,rfl,rfl⟩⟩⟩⟩⟩
theorem QzW:QaG.Flat:=fun M M' cs x h=>by obtain rfl:=QbB h;exact Qd3
structure QaK where
 Ids:(List Int)
 Isr:(List Int)
 Leader:Int
 Epoch:Int
 Add:(List Int)
 Drop:(List Int)
instance:Inhabited QaK:=⟨⟨default,default,default,default,default,default⟩⟩
def QbD:Kd QaK:=Kd.iso (fun x=>(x.Ids,x.Isr,x.Leader,x.Epoch,x.Add,x.Drop,())) (Kd.cons (Kd.slice (Kd.int .i64)) (Kd.cons (Kd.slice (Kd.int .i64)) (Kd.cons (Kd.int .i64) (Kd.cons (Kd.int .i64) (Kd.cons (Kd.slice (Kd.int .i64)) (Kd.cons (Kd.slice (Kd.int .i64)) Kd.nil))))))
theorem QcY {M:IM}{cs:List Value}{x:QaK}(h:QbD.rc M cs x):∃ vq_0 vq_1 vq_4 vq_5,cs=[vq_0,vq_1,(.int .i64 x.Leader),(.int .i64 x.Epoch),vq_4,vq_5]∧RS (Kd.int .i64) M vq_0 x.Ids∧RS (Kd.int .i64) M vq_1 x.Isr∧RS (Kd.int .i64) M vq_4 x.Add∧RS (Kd.int .i64) M vq_5 x.Drop:=by
 obtain ⟨c0,d0,rfl,⟨v0,rfl,k0⟩,⟨c1,d1,rfl,⟨v1,rfl,k1⟩,⟨c2,d2,rfl,rfl,⟨c3,d3,rfl,rfl,⟨c4,d4,rfl,⟨v4,rfl,k4⟩,⟨c5,d5,rfl,⟨v5,rfl,k5⟩,rfl⟩⟩⟩⟩⟩⟩:=h
 exact⟨v0,v1,v4,v5,rfl,k0,k1,k4,k5⟩
theorem QlN {M:IM}{x:QaK}{vq_0 vq_1 vq_4 vq_5:Value}(hq_0:RS (Kd.int .i64) M vq_0 x.Ids) (hq_1:RS (Kd.int .i64) M vq_1 x.Isr) (hq_4:RS (Kd.int .i64) M vq_4 x.Add) (hq_5:RS (Kd.int .i64) M vq_5 x.Drop):QbD.rc M [vq_0,vq_1,(.int .i64 x.Leader),(.int .i64 x.Epoch),vq_4,vq_5] x:=by
 exact⟨_,_,rfl,⟨_,rfl,hq_0⟩,⟨_,_,rfl,⟨_,rfl,hq_1⟩,⟨_,_,rfl,rfl,⟨_,_,rfl,rfl,⟨_,_,rfl,⟨_,rfl,hq_4⟩,⟨_,_,rfl,⟨_,rfl,hq_5⟩,rfl⟩⟩⟩⟩⟩⟩
structure QaE where
 Id:Int
 Name:ByteArray
 Parts:(List QaK)
instance:Inhabited QaE:=⟨⟨default,⟨#[]⟩,default⟩⟩
def QaI:Kd QaE:=Kd.iso (fun x=>(x.Id,x.Name,x.Parts,())) (Kd.cons (Kd.int .i64) (Kd.cons Kd.str (Kd.cons (Kd.slice QbD) Kd.nil)))
theorem QaW {M:IM}{cs:List Value}{x:QaE}(h:QaI.rc M cs x):∃ vq_2,cs=[(.int .i64 x.Id),(.string x.Name),vq_2]∧RS QbD M vq_2 x.Parts:=by
 obtain ⟨c0,d0,rfl,rfl,⟨c1,d1,rfl,rfl,⟨c2,d2,rfl,⟨v2,rfl,k2⟩,rfl⟩⟩⟩:=h
 exact⟨v2,rfl,k2⟩
theorem QhN {M:IM}{x:QaE}{vq_2:Value}(hq_2:RS QbD M vq_2 x.Parts):QaI.rc M [(.int .i64 x.Id),(.string x.Name),vq_2] x:=by
 exact⟨_,_,rfl,rfl,⟨_,_,rfl,rfl,⟨_,_,rfl,⟨_,rfl,hq_2⟩,rfl⟩⟩⟩
structure QaJ where
 Topic:Int
 Key:ByteArray
 Value:ByteArray
instance:Inhabited QaJ:=⟨⟨default,⟨#[]⟩,⟨#[]⟩⟩⟩
def QaH:Kd QaJ:=Kd.iso (fun x=>(x.Topic,x.Key,x.Value,())) (Kd.cons (Kd.int .i64) (Kd.cons Kd.str (Kd.cons Kd.str Kd.nil)))
theorem QbJ {M:IM}{cs:List Value}{x:QaJ}(h:QaH.rc M cs x):cs=[(.int .i64 x.Topic),(.string x.Key),(.string x.Value)]:=by
 obtain ⟨c0,d0,rfl,rfl,⟨c1,d1,rfl,rfl,⟨c2,d2,rfl,rfl,rfl⟩⟩⟩:=h
 exact rfl
theorem Qd4 {M:IM}{x:QaJ}:QaH.rc M [(.int .i64 x.Topic),(.string x.Key),(.string x.Value)] x:=by
 exact⟨_,_,rfl,rfl,⟨_,_,rfl,rfl,⟨_,_,rfl,rfl,rfl⟩⟩⟩
theorem QzX:QaH.Flat:=fun M M' cs x h=>by obtain rfl:=QbJ h;exact Qd4
structure QaT where
 Client:Int
 Serial:Int
 Code:Int
instance:Inhabited QaT:=⟨⟨default,default,default⟩⟩
def QaL:Kd QaT:=Kd.iso (fun x=>(x.Client,x.Serial,x.Code,())) (Kd.cons (Kd.int .i64) (Kd.cons (Kd.int .i64) (Kd.cons (Kd.int .i64) Kd.nil)))
theorem QcN {M:IM}{cs:List Value}{x:QaT}(h:QaL.rc M cs x):cs=[(.int .i64 x.Client),(.int .i64 x.Serial),(.int .i64 x.Code)]:=by
 obtain ⟨c0,d0,rfl,rfl,⟨c1,d1,rfl,rfl,⟨c2,d2,rfl,rfl,rfl⟩⟩⟩:=h
 exact rfl
theorem QjQ {M:IM}{x:QaT}:QaL.rc M [(.int .i64 x.Client),(.int .i64 x.Serial),(.int .i64 x.Code)] x:=by
 exact⟨_,_,rfl,rfl,⟨_,_,rfl,rfl,⟨_,_,rfl,rfl,rfl⟩⟩⟩
theorem Q07:QaL.Flat:=fun M M' cs x h=>by obtain rfl:=QcN h;exact QjQ
structure Qa7 where
 Op:ByteArray
 At:Int
 Code:Int
instance:Inhabited Qa7:=⟨⟨⟨#[]⟩,default,default⟩⟩
def QlO:Kd Qa7:=Kd.iso (fun x=>(x.Op,x.At,x.Code,())) (Kd.cons Kd.str (Kd.cons (Kd.int .i64) (Kd.cons (Kd.int .i64) Kd.nil)))
theorem Qp0 {M:IM}{cs:List Value}{x:Qa7}(h:QlO.rc M cs x):cs=[(.string x.Op),(.int .i64 x.At),(.int .i64 x.Code)]:=by
 obtain ⟨c0,d0,rfl,rfl,⟨c1,d1,rfl,rfl,⟨c2,d2,rfl,rfl,rfl⟩⟩⟩:=h
 exact rfl
theorem QsJ {M:IM}{x:Qa7}:QlO.rc M [(.string x.Op),(.int .i64 x.At),(.int .i64 x.Code)] x:=by
 exact⟨_,_,rfl,rfl,⟨_,_,rfl,rfl,⟨_,_,rfl,rfl,rfl⟩⟩⟩
theorem QyW:QlO.Flat:=fun M M' cs x h=>by obtain rfl:=Qp0 h;exact QsJ
structure QaA where
 Brokers:(List QaD)
 Topics:(List QaE)
 Configs:(List QaJ)
 Done:(List QaT)
 Last:Int
instance:Inhabited QaA:=⟨⟨default,default,default,default,default⟩⟩
def QsZ:Kd QaA:=Kd.iso (fun x=>(x.Brokers,x.Topics,x.Configs,x.Done,x.Last,())) (Kd.cons (Kd.slice QaG) (Kd.cons (Kd.slice QaI) (Kd.cons (Kd.slice QaH) (Kd.cons (Kd.slice QaL) (Kd.cons (Kd.int .i64) Kd.nil)))))
theorem Q0H {M:IM}{cs:List Value}{x:QaA}(h:QsZ.rc M cs x):∃ vq_0 vq_1 vq_2 vq_3,cs=[vq_0,vq_1,vq_2,vq_3,(.int .i64 x.Last)]∧RS QaG M vq_0 x.Brokers∧RS QaI M vq_1 x.Topics∧RS QaH M vq_2 x.Configs∧RS QaL M vq_3 x.Done:=by
 obtain ⟨c0,d0,rfl,⟨v0,rfl,k0⟩,⟨c1,d1,rfl,⟨v1,rfl,k1⟩,⟨c2,d2,rfl,⟨v2,rfl,k2⟩,⟨c3,d3,rfl,⟨v3,rfl,k3⟩,⟨c4,d4,rfl,rfl,rfl⟩⟩⟩⟩⟩:=h
 exact⟨v0,v1,v2,v3,rfl,k0,k1,k2,k3⟩
theorem Q1B {M:IM}{x:QaA}{vq_0 vq_1 vq_2 vq_3:Value}(hq_0:RS QaG M vq_0 x.Brokers) (hq_1:RS QaI M vq_1 x.Topics) (hq_2:RS QaH M vq_2 x.Configs) (hq_3:RS QaL M vq_3 x.Done):QsZ.rc M [vq_0,vq_1,vq_2,vq_3,(.int .i64 x.Last)] x:=by
 exact⟨_,_,rfl,⟨_,rfl,hq_0⟩,⟨_,_,rfl,⟨_,rfl,hq_1⟩,⟨_,_,rfl,⟨_,rfl,hq_2⟩,⟨_,_,rfl,⟨_,rfl,hq_3⟩,⟨_,_,rfl,rfl,rfl⟩⟩⟩⟩⟩
structure QaC where
 b:(List Int)
 at_:Int
 err:GErr
instance:Inhabited QaC:=⟨⟨default,default,default⟩⟩
def QpB:Kd QaC:=Kd.iso (fun x=>(x.b,x.at_,x.err,())) (Kd.cons (Kd.slice (Kd.int .u8)) (Kd.cons (Kd.int .i64) (Kd.cons Q5J Kd.nil)))
theorem QyX {M:IM}{cs:List Value}{x:QaC}(h:QpB.rc M cs x):∃ vq_0,cs=[vq_0,(.int .i64 x.at_),(GV x.err)]∧RS (Kd.int .u8) M vq_0 x.b:=by
 obtain ⟨c0,d0,rfl,⟨v0,rfl,k0⟩,⟨c1,d1,rfl,rfl,⟨c2,d2,rfl,rfl,rfl⟩⟩⟩:=h
 exact⟨v0,rfl,k0⟩
theorem Q0I {M:IM}{x:QaC}{vq_0:Value}(hq_0:RS (Kd.int .u8) M vq_0 x.b):QpB.rc M [vq_0,(.int .i64 x.at_),(GV x.err)] x:=by
 exact⟨_,_,rfl,⟨_,rfl,hq_0⟩,⟨_,_,rfl,rfl,⟨_,_,rfl,rfl,rfl⟩⟩⟩
structure QbP where
 Op:ByteArray
 At:Int
 Err:GErr
instance:Inhabited QbP:=⟨⟨⟨#[]⟩,default,default⟩⟩
def Qn1:Kd QbP:=Kd.iso (fun x=>(x.Op,x.At,x.Err,())) (Kd.cons Kd.str (Kd.cons (Kd.int .i64) (Kd.cons Q5J Kd.nil)))
theorem QsK {M:IM}{cs:List Value}{x:QbP}(h:Qn1.rc M cs x):cs=[(.string x.Op),(.int .i64 x.At),(GV x.Err)]:=by
 obtain ⟨c0,d0,rfl,rfl,⟨c1,d1,rfl,rfl,⟨c2,d2,rfl,rfl,rfl⟩⟩⟩:=h
 exact rfl
theorem Qu8 {M:IM}{x:QbP}:Qn1.rc M [(.string x.Op),(.int .i64 x.At),(GV x.Err)] x:=by
 exact⟨_,_,rfl,rfl,⟨_,_,rfl,rfl,⟨_,_,rfl,rfl,rfl⟩⟩⟩
theorem Q0J:Qn1.Flat:=fun M M' cs x h=>by obtain rfl:=QsK h;exact Qu8
structure QaB where
 At:Int
 Code:Int
 Op:ByteArray
 Where:Int
instance:Inhabited QaB:=⟨⟨default,default,⟨#[]⟩,default⟩⟩
def QjR:Kd QaB:=Kd.iso (fun x=>(x.At,x.Code,x.Op,x.Where,())) (Kd.cons (Kd.int .i64) (Kd.cons (Kd.int .i64) (Kd.cons Kd.str (Kd.cons (Kd.int .i64) Kd.nil))))
theorem Qk4 {M:IM}{cs:List Value}{x:QaB}(h:QjR.rc M cs x):cs=[(.int .i64 x.At),(.int .i64 x.Code),(.string x.Op),(.int .i64 x.Where)]:=by
 obtain ⟨c0,d0,rfl,rfl,⟨c1,d1,rfl,rfl,⟨c2,d2,rfl,rfl,⟨c3,d3,rfl,rfl,rfl⟩⟩⟩⟩:=h
 exact rfl
theorem Ql2 {M:IM}{x:QaB}:QjR.rc M [(.int .i64 x.At),(.int .i64 x.Code),(.string x.Op),(.int .i64 x.Where)] x:=by
 exact⟨_,_,rfl,rfl,⟨_,_,rfl,rfl,⟨_,_,rfl,rfl,⟨_,_,rfl,rfl,rfl⟩⟩⟩⟩
theorem QyY:QjR.Flat:=fun M M' cs x h=>by obtain rfl:=Qk4 h;exact Ql2
structure Qa8 where
 Kind:Int
 Most:Int
 Each:Int
instance:Inhabited Qa8:=⟨⟨default,default,default⟩⟩
def Qn2:Kd Qa8:=Kd.iso (fun x=>(x.Kind,x.Most,x.Each,())) (Kd.cons (Kd.int .i64) (Kd.cons (Kd.int .i64) (Kd.cons (Kd.int .i64) Kd.nil)))
theorem QsL {M:IM}{cs:List Value}{x:Qa8}(h:Qn2.rc M cs x):cs=[(.int .i64 x.Kind),(.int .i64 x.Most),(.int .i64 x.Each)]:=by
 obtain ⟨c0,d0,rfl,rfl,⟨c1,d1,rfl,rfl,⟨c2,d2,rfl,rfl,rfl⟩⟩⟩:=h
 exact rfl
theorem Qu9 {M:IM}{x:Qa8}:Qn2.rc M [(.int .i64 x.Kind),(.int .i64 x.Most),(.int .i64 x.Each)] x:=by
 exact⟨_,_,rfl,rfl,⟨_,_,rfl,rfl,⟨_,_,rfl,rfl,rfl⟩⟩⟩
theorem Q0K:Qn2.Flat:=fun M M' cs x h=>by obtain rfl:=QsL h;exact Qu9
structure QcR where
 Num:Int
 Flag:Bool
 Text:(List Int)
 Row:(List Int)
instance:Inhabited QcR:=⟨⟨default,default,default,default⟩⟩
def Qs0:Kd QcR:=Kd.iso (fun x=>(x.Num,x.Flag,x.Text,x.Row,())) (Kd.cons (Kd.int .u64) (Kd.cons Kd.bool (Kd.cons (Kd.slice (Kd.int .u8)) (Kd.cons (Kd.slice (Kd.int .i64)) Kd.nil))))
theorem Q0L {M:IM}{cs:List Value}{x:QcR}(h:Qs0.rc M cs x):∃ vq_2 vq_3,cs=[(.int .u64 x.Num),(.bool x.Flag),vq_2,vq_3]∧RS (Kd.int .u8) M vq_2 x.Text∧RS (Kd.int .i64) M vq_3 x.Row:=by
 obtain ⟨c0,d0,rfl,rfl,⟨c1,d1,rfl,rfl,⟨c2,d2,rfl,⟨v2,rfl,k2⟩,⟨c3,d3,rfl,⟨v3,rfl,k3⟩,rfl⟩⟩⟩⟩:=h
 exact⟨v2,v3,rfl,k2,k3⟩
theorem Q1C {M:IM}{x:QcR}{vq_2 vq_3:Value}(hq_2:RS (Kd.int .u8) M vq_2 x.Text) (hq_3:RS (Kd.int .i64) M vq_3 x.Row):Qs0.rc M [(.int .u64 x.Num),(.bool x.Flag),vq_2,vq_3] x:=by
 exact⟨_,_,rfl,rfl,⟨_,_,rfl,rfl,⟨_,_,rfl,⟨_,rfl,hq_2⟩,⟨_,_,rfl,⟨_,rfl,hq_3⟩,rfl⟩⟩⟩⟩
structure QaF where
 B:(List Int)
 S:QaB
instance:Inhabited QaF:=⟨⟨default,default⟩⟩
def Qn3:Kd QaF:=Kd.iso (fun x=>(x.B,x.S,())) (Kd.cons (Kd.slice (Kd.int .u8)) (Kd.cons QjR Kd.nil))
theorem QyR {M:IM}{cs:List Value}{x:QaF}(h:Qn3.rc M cs x):∃ vq_0,cs=[vq_0,(.int .i64 x.S.At),(.int .i64 x.S.Code),(.string x.S.Op),(.int .i64 x.S.Where)]∧RS (Kd.int .u8) M vq_0 x.B:=by
 obtain ⟨c0,d0,rfl,⟨v0,rfl,k0⟩,⟨c1,d1,rfl,k1,rfl⟩⟩:=h
 obtain rfl:=Qk4 k1
 exact⟨v0,rfl,k0⟩
theorem QzY {M:IM}{x:QaF}{vq_0:Value}(hq_0:RS (Kd.int .u8) M vq_0 x.B):Qn3.rc M [vq_0,(.int .i64 x.S.At),(.int .i64 x.S.Code),(.string x.S.Op),(.int .i64 x.S.Where)] x:=by
 exact⟨_,_,rfl,⟨_,rfl,hq_0⟩,⟨_,_,rfl,Ql2,rfl⟩⟩
structure QaM where
 Op:ByteArray
 At:Int
 Code:Int
instance:Inhabited QaM:=⟨⟨⟨#[]⟩,default,default⟩⟩
def QlP:Kd QaM:=Kd.iso (fun x=>(x.Op,x.At,x.Code,())) (Kd.cons Kd.str (Kd.cons (Kd.int .i64) (Kd.cons (Kd.int .i64) Kd.nil)))
theorem Qp1 {M:IM}{cs:List Value}{x:QaM}(h:QlP.rc M cs x):cs=[(.string x.Op),(.int .i64 x.At),(.int .i64 x.Code)]:=by
 obtain ⟨c0,d0,rfl,rfl,⟨c1,d1,rfl,rfl,⟨c2,d2,rfl,rfl,rfl⟩⟩⟩:=h
 exact rfl
theorem QsM {M:IM}{x:QaM}:QlP.rc M [(.string x.Op),(.int .i64 x.At),(.int .i64 x.Code)] x:=by
 exact⟨_,_,rfl,rfl,⟨_,_,rfl,rfl,⟨_,_,rfl,rfl,rfl⟩⟩⟩
theorem QyZ:QlP.Flat:=fun M M' cs x h=>by obtain rfl:=Qp1 h;exact QsM
abbrev pt (b o:Nat):Value:= .pointer (some ⟨b,o,none⟩)
abbrev l102 (x:QaO) (vq_14 vq_15 vq_16 vq_17:Value):List Value:=[(.int .i64 x.Kind),(.int .i64 x.Broker),(.int .i64 x.Epoch),(.int .i64 x.Topic),(.int .i64 x.Part),(.int .i64 x.Leader),(.int .i64 x.Client),(.int .i64 x.Serial),(.int .i64 x.Code),(.bool x.Flag),(.string x.Name),(.string x.Key),(.string x.Value),(.string x.Rack),vq_14,vq_15,vq_16,vq_17]
abbrev Q88:List Value:=[(.int .i64 (0:Int)),(.int .i64 (0:Int)),(.int .i64 (0:Int)),(.int .i64 (0:Int)),(.int .i64 (0:Int)),(.int .i64 (0:Int)),(.int .i64 (0:Int)),(.int .i64 (0:Int)),(.int .i64 (0:Int)),(.bool false),(.string (⟨#[]⟩:ByteArray)),(.string (⟨#[]⟩:ByteArray)),(.string (⟨#[]⟩:ByteArray)),(.string (⟨#[]⟩:ByteArray)),(.slice none 0 0),(.slice none 0 0),(.slice none 0 0),(.slice none 0 0)]
abbrev QjM (x:QaO) (vq_14 vq_15 vq_16 vq_17:Value):Value:= .agg (l102 x vq_14 vq_15 vq_16 vq_17).toArray
abbrev l66 (x:QaD):List Value:=[(.int .i64 x.Id),(.int .i64 x.Epoch),(.string x.Rack),(.bool x.Fenced),(.bool x.Leaving)]
abbrev z66_:List Value:=[(.int .i64 (0:Int)),(.int .i64 (0:Int)),(.string (⟨#[]⟩:ByteArray)),(.bool false),(.bool false)]
abbrev a66_ (x:QaD):Value:= .agg (l66 x).toArray
abbrev l53 (x:QaK) (vq_0 vq_1 vq_4 vq_5:Value):List Value:=[vq_0,vq_1,(.int .i64 x.Leader),(.int .i64 x.Epoch),vq_4,vq_5]
abbrev z53_:List Value:=[(.slice none 0 0),(.slice none 0 0),(.int .i64 (0:Int)),(.int .i64 (0:Int)),(.slice none 0 0),(.slice none 0 0)]
abbrev a53_ (x:QaK) (vq_0 vq_1 vq_4 vq_5:Value):Value:= .agg (l53 x vq_0 vq_1 vq_4 vq_5).toArray
abbrev l50 (x:QaE) (vq_2:Value):List Value:=[(.int .i64 x.Id),(.string x.Name),vq_2]
abbrev a50_ (x:QaE) (vq_2:Value):Value:= .agg (l50 x vq_2).toArray
abbrev l74 (x:QaJ):List Value:=[(.int .i64 x.Topic),(.string x.Key),(.string x.Value)]
abbrev z74_:List Value:=[(.int .i64 (0:Int)),(.string (⟨#[]⟩:ByteArray)),(.string (⟨#[]⟩:ByteArray))]
abbrev a74_ (x:QaJ):Value:= .agg (l74 x).toArray
abbrev l78 (x:QaT):List Value:=[(.int .i64 x.Client),(.int .i64 x.Serial),(.int .i64 x.Code)]
abbrev a78_ (x:QaT):Value:= .agg (l78 x).toArray
abbrev l130 (x:Qa7):List Value:=[(.string x.Op),(.int .i64 x.At),(.int .i64 x.Code)]
abbrev Q22 (x:Qa7):Value:= .agg (l130 x).toArray
abbrev l29 (x:QaA) (vq_0 vq_1 vq_2 vq_3:Value):List Value:=[vq_0,vq_1,vq_2,vq_3,(.int .i64 x.Last)]
abbrev z29_:List Value:=[(.slice none 0 0),(.slice none 0 0),(.slice none 0 0),(.slice none 0 0),(.int .i64 (0:Int))]
abbrev a29_ (x:QaA) (vq_0 vq_1 vq_2 vq_3:Value):Value:= .agg (l29 x vq_0 vq_1 vq_2 vq_3).toArray
abbrev l108 (x:QaC) (vq_0:Value):List Value:=[vq_0,(.int .i64 x.at_),(GV x.err)]
abbrev Q89 (x:QaC) (vq_0:Value):Value:= .agg (l108 x vq_0).toArray
abbrev l114 (x:QbP):List Value:=[(.string x.Op),(.int .i64 x.At),(GV x.Err)]
abbrev Q5K (x:QbP):Value:= .agg (l114 x).toArray
abbrev l84 (x:QaB):List Value:=[(.int .i64 x.At),(.int .i64 x.Code),(.string x.Op),(.int .i64 x.Where)]
abbrev z84_:List Value:=[(.int .i64 (0:Int)),(.int .i64 (0:Int)),(.string (⟨#[]⟩:ByteArray)),(.int .i64 (0:Int))]
abbrev a84_ (x:QaB):Value:= .agg (l84 x).toArray
abbrev l120 (x:Qa8):List Value:=[(.int .i64 x.Kind),(.int .i64 x.Most),(.int .i64 x.Each)]
abbrev Q5L (x:Qa8):Value:= .agg (l120 x).toArray
abbrev l116 (x:QcR) (vq_2 vq_3:Value):List Value:=[(.int .u64 x.Num),(.bool x.Flag),vq_2,vq_3]
abbrev QdA (x:QcR) (vq_2 vq_3:Value):Value:= .agg (l116 x vq_2 vq_3).toArray
abbrev l86 (x:QaF) (vq_0:Value):List Value:=[vq_0,(.int .i64 x.S.At),(.int .i64 x.S.Code),(.string x.S.Op),(.int .i64 x.S.Where)]
abbrev z86_:List Value:=[(.slice none 0 0),(.int .i64 (0:Int)),(.int .i64 (0:Int)),(.string (⟨#[]⟩:ByteArray)),(.int .i64 (0:Int))]
abbrev a86_ (x:QaF) (vq_0:Value):Value:= .agg (l86 x vq_0).toArray
abbrev l36 (x:QaM):List Value:=[(.string x.Op),(.int .i64 x.At),(.int .i64 x.Code)]
abbrev a36_ (x:QaM):Value:= .agg (l36 x).toArray
end Go.Proofs.YtfkmkgpoddbbfaaGreatDoor.G
