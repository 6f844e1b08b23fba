/- Closed facts on the program's types. Printed by a program of the session (gen). -/
import Derived.Test.YtfkmkgpoddbbfaaGreatDoorRT
import Derived.Test.YtfkmkgpoddbbfaaGreatDoorProg
set_option linter.unusedVariables false
set_option linter.unusedSimpArgs false
set_option maxHeartbeats 8000000
set_option maxRecDepth 100000
namespace Go.Proofs.YtfkmkgpoddbbfaaGreatDoor.G
open Go Go.KK
open PO EO IntKind Sum Tryz
def Env (M:IM):Prop:=M.cell ⟨0,0,none⟩=some (.iface 177 (.agg #[(.pointer (some ⟨1,31,none⟩))]))
theorem Env.mono {M M':IM}(h:Env M) (hle:M.le M'):Env M':=hle.cell h
theorem QvA:aggB prog 102=true:=by kernel_rfl
theorem Q5M:aggB prog 106=true:=by kernel_rfl
theorem Q7G:aggB prog 114=true:=by kernel_rfl
theorem Qy0:aggB prog 116=true:=by kernel_rfl
theorem Qp2:aggB prog 130=true:=by kernel_rfl
theorem QxS:aggB prog 156=true:=by kernel_rfl
theorem ag29:aggB prog 29=true:=by kernel_rfl
theorem ag36:aggB prog 36=true:=by kernel_rfl
theorem ag50:aggB prog 50=true:=by kernel_rfl
theorem ag53:aggB prog 53=true:=by kernel_rfl
theorem ag66:aggB prog 66=true:=by kernel_rfl
theorem ag74:aggB prog 74=true:=by kernel_rfl
theorem ag78:aggB prog 78=true:=by kernel_rfl
theorem ag84:aggB prog 84=true:=by kernel_rfl
theorem Q5N:prog.concrete 114=true:=by kernel_rfl
theorem Q5O:prog.concrete 124=true:=by kernel_rfl
theorem Q7H:prog.concrete 125=true:=by kernel_rfl
theorem cc34:prog.concrete 34=true:=by kernel_rfl
theorem cm34:(prog.info? 34).map (·.comparable)=some true:=by kernel_rfl
theorem co10:QaN prog 10=true:=by kernel_rfl
theorem Q5P:QaN prog 100=true:=by kernel_rfl
theorem Q23:QaN prog 101=true:=by kernel_rfl
theorem Q7I:QaN prog 102=true:=by kernel_rfl
theorem Qn4:QaN prog 103=true:=by kernel_rfl
theorem Q4E:QaN prog 104=true:=by kernel_rfl
theorem Q24:QaN prog 105=true:=by kernel_rfl
theorem Q1D:QaN prog 106=true:=by kernel_rfl
theorem Q5Q:QaN prog 107=true:=by kernel_rfl
theorem Q7J:QaN prog 108=true:=by kernel_rfl
theorem Q5R:QaN prog 109=true:=by kernel_rfl
theorem co11:QaN prog 11=true:=by kernel_rfl
theorem Q5S:QaN prog 110=true:=by kernel_rfl
theorem Q7K:QaN prog 111=true:=by kernel_rfl
theorem Q7L:QaN prog 112=true:=by kernel_rfl
theorem Q7M:QaN prog 113=true:=by kernel_rfl
theorem Q7N:QaN prog 114=true:=by kernel_rfl
theorem Q7O:QaN prog 115=true:=by kernel_rfl
theorem Q7P:QaN prog 116=true:=by kernel_rfl
theorem Q7Q:QaN prog 117=true:=by kernel_rfl
theorem Q7R:QaN prog 118=true:=by kernel_rfl
theorem Q5T:QaN prog 119=true:=by kernel_rfl
theorem co12:QaN prog 12=true:=by kernel_rfl
theorem Q1E:QaN prog 120=true:=by kernel_rfl
theorem Q7S:QaN prog 121=true:=by kernel_rfl
theorem Q7T:QaN prog 122=true:=by kernel_rfl
theorem Q7U:QaN prog 123=true:=by kernel_rfl
theorem Q1F:QaN prog 124=true:=by kernel_rfl
theorem QxT:QaN prog 127=true:=by kernel_rfl
theorem Q0M:QaN prog 128=true:=by kernel_rfl
theorem Q7V:QaN prog 129=true:=by kernel_rfl
theorem co13:QaN prog 13=true:=by kernel_rfl
theorem Q7W:QaN prog 130=true:=by kernel_rfl
theorem Q7X:QaN prog 131=true:=by kernel_rfl
theorem Q7Y:QaN prog 132=true:=by kernel_rfl
theorem Q7Z:QaN prog 133=true:=by kernel_rfl
theorem Q70:QaN prog 134=true:=by kernel_rfl
theorem Q71:QaN prog 135=true:=by kernel_rfl
theorem Q72:QaN prog 136=true:=by kernel_rfl
theorem Q73:QaN prog 137=true:=by kernel_rfl
theorem Q74:QaN prog 138=true:=by kernel_rfl
theorem Q75:QaN prog 139=true:=by kernel_rfl
theorem co14:QaN prog 14=true:=by kernel_rfl
theorem Q5U:QaN prog 140=true:=by kernel_rfl
theorem Q76:QaN prog 141=true:=by kernel_rfl
theorem Q5V:QaN prog 142=true:=by kernel_rfl
theorem co15:QaN prog 15=true:=by kernel_rfl
theorem co16:QaN prog 16=true:=by kernel_rfl
theorem Q5W:QaN prog 163=true:=by kernel_rfl
theorem co17:QaN prog 17=true:=by kernel_rfl
theorem co18:QaN prog 18=true:=by kernel_rfl
theorem co19:QaN prog 19=true:=by kernel_rfl
theorem co20:QaN prog 20=true:=by kernel_rfl
theorem co21:QaN prog 21=true:=by kernel_rfl
theorem co22:QaN prog 22=true:=by kernel_rfl
theorem co23:QaN prog 23=true:=by kernel_rfl
theorem co24:QaN prog 24=true:=by kernel_rfl
theorem co25:QaN prog 25=true:=by kernel_rfl
theorem co26:QaN prog 26=true:=by kernel_rfl
theorem co27:QaN prog 27=true:=by kernel_rfl
theorem co28:QaN prog 28=true:=by kernel_rfl
theorem co29:QaN prog 29=true:=by kernel_rfl
theorem co30:QaN prog 30=true:=by kernel_rfl
theorem co31:QaN prog 31=true:=by kernel_rfl
theorem co32:QaN prog 32=true:=by kernel_rfl
theorem co33:QaN prog 33=true:=by kernel_rfl
theorem co34:QaN prog 34=true:=by kernel_rfl
theorem co35:QaN prog 35=true:=by kernel_rfl
theorem co36:QaN prog 36=true:=by kernel_rfl
theorem co37:QaN prog 37=true:=by kernel_rfl
theorem co38:QaN prog 38=true:=by kernel_rfl
theorem co39:QaN prog 39=true:=by kernel_rfl
theorem co4:QaN prog 4=true:=by kernel_rfl
theorem co40:QaN prog 40=true:=by kernel_rfl
theorem co41:QaN prog 41=true:=by kernel_rfl
theorem co42:QaN prog 42=true:=by kernel_rfl
theorem co43:QaN prog 43=true:=by kernel_rfl
theorem co44:QaN prog 44=true:=by kernel_rfl
theorem co45:QaN prog 45=true:=by kernel_rfl
theorem co46:QaN prog 46=true:=by kernel_rfl
theorem co47:QaN prog 47=true:=by kernel_rfl
theorem co48:QaN prog 48=true:=by kernel_rfl
theorem co49:QaN prog 49=true:=by kernel_rfl
theorem co5:QaN prog 5=true:=by kernel_rfl
theorem co50:QaN prog 50=true:=by kernel_rfl
theorem co51:QaN prog 51=true:=by kernel_rfl
theorem co52:QaN prog 52=true:=by kernel_rfl
theorem co53:QaN prog 53=true:=by kernel_rfl
theorem co54:QaN prog 54=true:=by kernel_rfl
theorem co55:QaN prog 55=true:=by kernel_rfl
theorem co56:QaN prog 56=true:=by kernel_rfl
theorem co57:QaN prog 57=true:=by kernel_rfl
theorem co58:QaN prog 58=true:=by kernel_rfl
theorem co59:QaN prog 59=true:=by kernel_rfl
theorem co6:QaN prog 6=true:=by kernel_rfl
theorem co60:QaN prog 60=true:=by kernel_rfl
theorem co61:QaN prog 61=true:=by kernel_rfl
theorem co62:QaN prog 62=true:=by kernel_rfl
theorem co63:QaN prog 63=true:=by kernel_rfl
theorem co64:QaN prog 64=true:=by kernel_rfl
theorem co65:QaN prog 65=true:=by kernel_rfl
theorem co66:QaN prog 66=true:=by kernel_rfl
theorem co67:QaN prog 67=true:=by kernel_rfl
theorem co68:QaN prog 68=true:=by kernel_rfl
theorem co69:QaN prog 69=true:=by kernel_rfl
theorem co7:QaN prog 7=true:=by kernel_rfl
theorem co70:QaN prog 70=true:=by kernel_rfl
theorem co71:QaN prog 71=true:=by kernel_rfl
theorem co72:QaN prog 72=true:=by kernel_rfl
theorem co73:QaN prog 73=true:=by kernel_rfl
theorem co74:QaN prog 74=true:=by kernel_rfl
theorem co75:QaN prog 75=true:=by kernel_rfl
theorem co76:QaN prog 76=true:=by kernel_rfl
theorem co77:QaN prog 77=true:=by kernel_rfl
theorem co78:QaN prog 78=true:=by kernel_rfl
theorem co8:QaN prog 8=true:=by kernel_rfl
theorem co80:QaN prog 80=true:=by kernel_rfl
theorem co81:QaN prog 81=true:=by kernel_rfl
theorem co82:QaN prog 82=true:=by kernel_rfl
theorem co83:QaN prog 83=true:=by kernel_rfl
theorem co84:QaN prog 84=true:=by kernel_rfl
theorem co85:QaN prog 85=true:=by kernel_rfl
theorem co86:QaN prog 86=true:=by kernel_rfl
theorem co87:QaN prog 87=true:=by kernel_rfl
theorem co88:QaN prog 88=true:=by kernel_rfl
theorem co89:QaN prog 89=true:=by kernel_rfl
theorem co9:QaN prog 9=true:=by kernel_rfl
theorem co90:QaN prog 90=true:=by kernel_rfl
theorem co91:QaN prog 91=true:=by kernel_rfl
theorem co92:QaN prog 92=true:=by kernel_rfl
theorem co93:QaN prog 93=true:=by kernel_rfl
theorem co94:QaN prog 94=true:=by kernel_rfl
theorem co95:QaN prog 95=true:=by kernel_rfl
theorem co96:QaN prog 96=true:=by kernel_rfl
theorem Q77 (w:World):(Extern.Rtype.directlyAssignable 114 114).run prog w= .ok true w:=by kernel_rfl
theorem da34 (w:World):(Extern.Rtype.directlyAssignable 34 34).run prog w= .ok true w:=by kernel_rfl
theorem eg66:prog.eqGuardType prog.depth 66=false:=by kernel_rfl
theorem eg74:prog.eqGuardType prog.depth 74=false:=by kernel_rfl
theorem eg78:prog.eqGuardType prog.depth 78=false:=by kernel_rfl
theorem Q78 (w:World):(Extern.Rtype.elem? 124).run prog w= .ok (some 114) w:=by kernel_rfl
theorem Q79 (w:World):(Extern.Rtype.elem? 125).run prog w= .ok (some 34) w:=by kernel_rfl
theorem eq66:Qk7 prog 66=true:=by kernel_rfl
theorem eq74:Qk7 prog 74=true:=by kernel_rfl
theorem eq78:Qk7 prog 78=true:=by kernel_rfl
theorem QvB:QbQ prog 102 0=some 0:=by kernel_rfl
theorem Qp3:QbQ prog 102 1=some 1:=by kernel_rfl
theorem QrB:QbQ prog 102 10=some 10:=by kernel_rfl
theorem QmK:QbQ prog 102 11=some 11:=by kernel_rfl
theorem QrC:QbQ prog 102 12=some 12:=by kernel_rfl
theorem QwW:QbQ prog 102 13=some 13:=by kernel_rfl
theorem Qt8:QbQ prog 102 14=some 14:=by kernel_rfl
theorem QwX:QbQ prog 102 15=some 15:=by kernel_rfl
theorem QwY:QbQ prog 102 16=some 16:=by kernel_rfl
theorem QwZ:QbQ prog 102 17=some 17:=by kernel_rfl
theorem QlQ:QbQ prog 102 2=some 2:=by kernel_rfl
theorem QgY:QbQ prog 102 3=some 3:=by kernel_rfl
theorem Qn5:QbQ prog 102 4=some 4:=by kernel_rfl
theorem QvC:QbQ prog 102 5=some 5:=by kernel_rfl
theorem QvD:QbQ prog 102 6=some 6:=by kernel_rfl
theorem Qw0:QbQ prog 102 7=some 7:=by kernel_rfl
theorem Qy1:QbQ prog 102 8=some 8:=by kernel_rfl
theorem Qw1:QbQ prog 102 9=some 9:=by kernel_rfl
theorem Qn6:QbQ prog 108 0=some 0:=by kernel_rfl
theorem QeB:QbQ prog 108 1=some 1:=by kernel_rfl
theorem QmL:QbQ prog 108 2=some 2:=by kernel_rfl
theorem Q4F:QbQ prog 114 0=some 0:=by kernel_rfl
theorem Q4G:QbQ prog 114 1=some 1:=by kernel_rfl
theorem Q1G:QbQ prog 114 2=some 2:=by kernel_rfl
theorem Q4H:QbQ prog 116 0=some 0:=by kernel_rfl
theorem Q4I:QbQ prog 116 1=some 1:=by kernel_rfl
theorem Q4J:QbQ prog 116 2=some 2:=by kernel_rfl
theorem Q4K:QbQ prog 116 3=some 3:=by kernel_rfl
theorem Q4L:QbQ prog 120 0=some 0:=by kernel_rfl
theorem QsN:QbQ prog 120 1=some 1:=by kernel_rfl
theorem Q4M:QbQ prog 120 2=some 2:=by kernel_rfl
theorem Qw2:QbQ prog 130 2=some 2:=by kernel_rfl
theorem QeU:QbQ prog 29 0=some 0:=by kernel_rfl
theorem QcB:QbQ prog 29 1=some 1:=by kernel_rfl
theorem QdY:QbQ prog 29 2=some 2:=by kernel_rfl
theorem QeO:QbQ prog 29 3=some 3:=by kernel_rfl
theorem QmS:QbQ prog 29 4=some 4:=by kernel_rfl
theorem Q1H:QbQ prog 36 0=some 0:=by kernel_rfl
theorem Q5X:QbQ prog 36 1=some 1:=by kernel_rfl
theorem QrD:QbQ prog 36 2=some 2:=by kernel_rfl
theorem QkJ:QbQ prog 50 0=some 0:=by kernel_rfl
theorem Ql3:QbQ prog 50 1=some 1:=by kernel_rfl
theorem Qd0:QbQ prog 50 2=some 2:=by kernel_rfl
theorem QiN:QbQ prog 53 0=some 0:=by kernel_rfl
theorem QlA:QbQ prog 53 1=some 1:=by kernel_rfl
theorem QkK:QbQ prog 53 2=some 2:=by kernel_rfl
theorem Ql4:QbQ prog 53 3=some 3:=by kernel_rfl
theorem Qn7:QbQ prog 53 4=some 4:=by kernel_rfl
theorem QmT:QbQ prog 53 5=some 5:=by kernel_rfl
theorem QhO:QbQ prog 66 0=some 0:=by kernel_rfl
theorem QmU:QbQ prog 66 1=some 1:=by kernel_rfl
theorem QrE:QbQ prog 66 2=some 2:=by kernel_rfl
theorem Qn8:QbQ prog 66 3=some 3:=by kernel_rfl
theorem Qs1:QbQ prog 66 4=some 4:=by kernel_rfl
theorem QeP:QbQ prog 74 0=some 0:=by kernel_rfl
theorem QgQ:QbQ prog 74 1=some 1:=by kernel_rfl
theorem QgR:QbQ prog 74 2=some 2:=by kernel_rfl
theorem QrF:QbQ prog 78 0=some 0:=by kernel_rfl
theorem QpC:QbQ prog 78 1=some 1:=by kernel_rfl
theorem Qs2:QbQ prog 78 2=some 2:=by kernel_rfl
theorem QfO:QbQ prog 84 0=some 0:=by kernel_rfl
theorem QlB:QbQ prog 84 1=some 1:=by kernel_rfl
theorem Q32:QbQ prog 84 2=some 2:=by kernel_rfl
theorem Q33:QbQ prog 84 3=some 3:=by kernel_rfl
theorem Qc2:QbQ prog 86 0=some 0:=by kernel_rfl
theorem Qb1:QbQ prog 86 1=some 1:=by kernel_rfl
theorem Q0N:QeR prog 102=some [(0,1),(1,1),(2,1),(3,1),(4,1),(5,1),(6,1),(7,1),(8,1),(9,1),(10,1),(11,1),(12,1),(13,1),(14,1),(15,1),(16,1),(17,1)]:=by kernel_rfl
theorem Q8A:QeR prog 108=some [(0,1),(1,1),(2,1)]:=by kernel_rfl
theorem Q5Y:QeR prog 114=some [(0,1),(1,1),(2,1)]:=by kernel_rfl
theorem QxU:QeR prog 116=some [(0,1),(1,1),(2,1),(3,1)]:=by kernel_rfl
theorem QfI:QeR prog 120=some [(0,1),(1,1),(2,1)]:=by kernel_rfl
theorem QsO:QeR prog 130=some [(0,1),(1,1),(2,1)]:=by kernel_rfl
theorem fp29:QeR prog 29=some [(0,1),(1,1),(2,1),(3,1),(4,1)]:=by kernel_rfl
theorem fp36:QeR prog 36=some [(0,1),(1,1),(2,1)]:=by kernel_rfl
theorem fp50:QeR prog 50=some [(0,1),(1,1),(2,1)]:=by kernel_rfl
theorem fp53:QeR prog 53=some [(0,1),(1,1),(2,1),(3,1),(4,1),(5,1)]:=by kernel_rfl
theorem fp66:QeR prog 66=some [(0,1),(1,1),(2,1),(3,1),(4,1)]:=by kernel_rfl
theorem fp74:QeR prog 74=some [(0,1),(1,1),(2,1)]:=by kernel_rfl
theorem fp78:QeR prog 78=some [(0,1),(1,1),(2,1)]:=by kernel_rfl
theorem fp84:QeR prog 84=some [(0,1),(1,1),(2,1),(3,1)]:=by kernel_rfl
theorem fp86:QeR prog 86=some [(0,1),(1,4)]:=by kernel_rfl
theorem QxV (v:Value) (xT:TypeId) (w:World):(Instr.typeAssert (.iface 114 v) xT 182 true).run prog w= .ok (.tuple #[.iface 114 v, .bool true]) w:=run_typeAssert_hasB underlying182 (by kernel_rfl) v xT w
theorem in3:(prog.info? 3).map (fun i=>(i.size,i.bytes,i.zero))=some (1,8,some (.int .i64 (0:Int))):=by kernel_rfl
theorem in5:(prog.info? 5).map (fun i=>(i.size,i.bytes,i.zero))=some (1,1,some (.int .u8 (0:Int))):=by kernel_rfl
theorem in50:(prog.info? 50).map (fun i=>(i.size,i.bytes,i.zero))=some (3,48,some (.agg #[(.int .i64 (0:Int)),(.string (⟨#[]⟩:ByteArray)),(.slice none 0 0)])):=by kernel_rfl
theorem in53:(prog.info? 53).map (fun i=>(i.size,i.bytes,i.zero))=some (6,112,some (.agg #[(.slice none 0 0),(.slice none 0 0),(.int .i64 (0:Int)),(.int .i64 (0:Int)),(.slice none 0 0),(.slice none 0 0)])):=by kernel_rfl
theorem in66:(prog.info? 66).map (fun i=>(i.size,i.bytes,i.zero))=some (5,40,some (.agg #[(.int .i64 (0:Int)),(.int .i64 (0:Int)),(.string (⟨#[]⟩:ByteArray)),(.bool false),(.bool false)])):=by kernel_rfl
theorem in74:(prog.info? 74).map (fun i=>(i.size,i.bytes,i.zero))=some (3,40,some (.agg #[(.int .i64 (0:Int)),(.string (⟨#[]⟩:ByteArray)),(.string (⟨#[]⟩:ByteArray))])):=by kernel_rfl
theorem in78:(prog.info? 78).map (fun i=>(i.size,i.bytes,i.zero))=some (3,24,some (.agg #[(.int .i64 (0:Int)),(.int .i64 (0:Int)),(.int .i64 (0:Int))])):=by kernel_rfl
theorem in9:(prog.info? 9).map (fun i=>(i.size,i.bytes,i.zero))=some (1,16,some (.string (⟨#[]⟩:ByteArray))):=by kernel_rfl
theorem Q8B:(prog.info? 102).map (fun i=>(i.size,i.zero))=some (18,some (.agg #[(.int .i64 (0:Int)),(.int .i64 (0:Int)),(.int .i64 (0:Int)),(.int .i64 (0:Int)),(.int .i64 (0:Int)),(.int .i64 (0:Int)),(.int .i64 (0:Int)),(.int .i64 (0:Int)),(.int .i64 (0:Int)),(.bool false),(.string (⟨#[]⟩:ByteArray)),(.string (⟨#[]⟩:ByteArray)),(.string (⟨#[]⟩:ByteArray)),(.string (⟨#[]⟩:ByteArray)),(.slice none 0 0),(.slice none 0 0),(.slice none 0 0),(.slice none 0 0)])):=by kernel_rfl
theorem iz3:(prog.info? 3).map (fun i=>(i.size,i.zero))=some (1,some (.int .i64 (0:Int))):=by kernel_rfl
theorem iz5:(prog.info? 5).map (fun i=>(i.size,i.zero))=some (1,some (.int .u8 (0:Int))):=by kernel_rfl
theorem iz50:(prog.info? 50).map (fun i=>(i.size,i.zero))=some (3,some (.agg #[(.int .i64 (0:Int)),(.string (⟨#[]⟩:ByteArray)),(.slice none 0 0)])):=by kernel_rfl
theorem iz51:(prog.info? 51).map (fun i=>(i.size,i.zero))=some (1,some (.slice none 0 0)):=by kernel_rfl
theorem iz53:(prog.info? 53).map (fun i=>(i.size,i.zero))=some (6,some (.agg #[(.slice none 0 0),(.slice none 0 0),(.int .i64 (0:Int)),(.int .i64 (0:Int)),(.slice none 0 0),(.slice none 0 0)])):=by kernel_rfl
theorem iz66:(prog.info? 66).map (fun i=>(i.size,i.zero))=some (5,some (.agg #[(.int .i64 (0:Int)),(.int .i64 (0:Int)),(.string (⟨#[]⟩:ByteArray)),(.bool false),(.bool false)])):=by kernel_rfl
theorem iz74:(prog.info? 74).map (fun i=>(i.size,i.zero))=some (3,some (.agg #[(.int .i64 (0:Int)),(.string (⟨#[]⟩:ByteArray)),(.string (⟨#[]⟩:ByteArray))])):=by kernel_rfl
theorem iz78:(prog.info? 78).map (fun i=>(i.size,i.zero))=some (3,some (.agg #[(.int .i64 (0:Int)),(.int .i64 (0:Int)),(.int .i64 (0:Int))])):=by kernel_rfl
theorem iz9:(prog.info? 9).map (fun i=>(i.size,i.zero))=some (1,some (.string (⟨#[]⟩:ByteArray))):=by kernel_rfl
theorem Q4N (v:Value) (xT:TypeId) (w:World):(Instr.typeAssert (.iface 0 v) xT 179 true).run prog w= .ok (.tuple #[.nilIface, .bool false]) w:=run_typeAssert_lacksB underlying179 (by kernel_rfl) (by kernel_rfl) v xT w
theorem Qy2 (v:Value) (xT:TypeId) (w:World):(Instr.typeAssert (.iface 0 v) xT 182 true).run prog w= .ok (.tuple #[.nilIface, .bool false]) w:=run_typeAssert_lacksB underlying182 (by kernel_rfl) (by kernel_rfl) v xT w
theorem Qy3 (v:Value) (xT:TypeId) (w:World):(Instr.typeAssert (.iface 0 v) xT 183 true).run prog w= .ok (.tuple #[.nilIface, .bool false]) w:=run_typeAssert_lacksB underlying183 (by kernel_rfl) (by kernel_rfl) v xT w
theorem Q1I (v:Value) (xT:TypeId) (w:World):(Instr.typeAssert (.iface 0 v) xT 196 true).run prog w= .ok (.tuple #[.nilIface, .bool false]) w:=run_typeAssert_lacksB underlying196 (by kernel_rfl) (by kernel_rfl) v xT w
theorem Q1J (v:Value) (xT:TypeId) (w:World):(Instr.typeAssert (.iface 114 v) xT 179 true).run prog w= .ok (.tuple #[.nilIface, .bool false]) w:=run_typeAssert_lacksB underlying179 (by kernel_rfl) (by kernel_rfl) v xT w
theorem Q1K (v:Value) (xT:TypeId) (w:World):(Instr.typeAssert (.iface 114 v) xT 196 true).run prog w= .ok (.tuple #[.nilIface, .bool false]) w:=run_typeAssert_lacksB underlying196 (by kernel_rfl) (by kernel_rfl) v xT w
theorem Q25 (v:Value) (xT:TypeId) (w:World):(Instr.typeAssert (.iface 34 v) xT 179 true).run prog w= .ok (.tuple #[.nilIface, .bool false]) w:=run_typeAssert_lacksB underlying179 (by kernel_rfl) (by kernel_rfl) v xT w
theorem QzZ (v:Value) (xT:TypeId) (w:World):(Instr.typeAssert (.iface 34 v) xT 182 true).run prog w= .ok (.tuple #[.nilIface, .bool false]) w:=run_typeAssert_lacksB underlying182 (by kernel_rfl) (by kernel_rfl) v xT w
theorem Qz0 (v:Value) (xT:TypeId) (w:World):(Instr.typeAssert (.iface 34 v) xT 183 true).run prog w= .ok (.tuple #[.nilIface, .bool false]) w:=run_typeAssert_lacksB underlying183 (by kernel_rfl) (by kernel_rfl) v xT w
theorem Q26 (v:Value) (xT:TypeId) (w:World):(Instr.typeAssert (.iface 34 v) xT 196 true).run prog w= .ok (.tuple #[.nilIface, .bool false]) w:=run_typeAssert_lacksB underlying196 (by kernel_rfl) (by kernel_rfl) v xT w
theorem Qs3 (v:Value) (w:World):(method (Qo7 prog) 114 v "Unwrap").run prog w= .ok (163,v) w:=by kernel_rfl
theorem Q8C (p:Addr) (w:World):(Extern.ReflectliteValue.mk 114 p Extern.ReflectliteValue.flagAddr).run prog w= .ok (.agg #[(.pointer (some ⟨1,114,none⟩)), .pointer (some p), .int .u64 409]) w:=by kernel_rfl
theorem mk34 (p:Addr) (w:World):(Extern.ReflectliteValue.mk 34 p Extern.ReflectliteValue.flagAddr).run prog w= .ok (.agg #[(.pointer (some ⟨1,34,none⟩)), .pointer (some p), .int .u64 386]) w:=by kernel_rfl
theorem Qf5 (h:Value) (w:World):(method (Qo7 prog) 177 (.agg #[h]) "AssignableTo").run prog w= .ok (168, .agg #[h]) w:=by kernel_rfl
theorem Qw3 (h:Value) (w:World):(method (Qo7 prog) 177 (.agg #[h]) "Comparable").run prog w= .ok (169, .agg #[h]) w:=by kernel_rfl
theorem Q1L (h:Value) (w:World):(method (Qo7 prog) 177 (.agg #[h]) "Elem").run prog w= .ok (170, .agg #[h]) w:=by kernel_rfl
theorem QrG (h:Value) (w:World):(method (Qo7 prog) 177 (.agg #[h]) "Implements").run prog w= .ok (171, .agg #[h]) w:=by kernel_rfl
theorem Qw4 (h:Value) (w:World):(method (Qo7 prog) 177 (.agg #[h]) "Kind").run prog w= .ok (157,h) w:=by kernel_rfl
theorem Qn9 (w:World):((Extern.ReflectliteType.relation "AssignableTo" Extern.ReflectliteType.assignableTo) #[.agg #[(.pointer (some ⟨1,0,none⟩))],(.iface 177 (.agg #[.pointer (some ⟨1,114,none⟩)]))]).run prog w= .ok (.bool false) w:=by kernel_rfl
theorem Qo2 (w:World):((Extern.ReflectliteType.relation "AssignableTo" Extern.ReflectliteType.assignableTo) #[.agg #[(.pointer (some ⟨1,0,none⟩))],(.iface 177 (.agg #[.pointer (some ⟨1,34,none⟩)]))]).run prog w= .ok (.bool false) w:=by kernel_rfl
theorem QmM (w:World):((Extern.ReflectliteType.relation "AssignableTo" Extern.ReflectliteType.assignableTo) #[.agg #[(.pointer (some ⟨1,114,none⟩))],(.iface 177 (.agg #[.pointer (some ⟨1,114,none⟩)]))]).run prog w= .ok (.bool true) w:=by kernel_rfl
theorem QnB (w:World):((Extern.ReflectliteType.relation "AssignableTo" Extern.ReflectliteType.assignableTo) #[.agg #[(.pointer (some ⟨1,114,none⟩))],(.iface 177 (.agg #[.pointer (some ⟨1,34,none⟩)]))]).run prog w= .ok (.bool false) w:=by kernel_rfl
theorem QnC (w:World):((Extern.ReflectliteType.relation "AssignableTo" Extern.ReflectliteType.assignableTo) #[.agg #[(.pointer (some ⟨1,34,none⟩))],(.iface 177 (.agg #[.pointer (some ⟨1,114,none⟩)]))]).run prog w= .ok (.bool false) w:=by kernel_rfl
theorem QoA (w:World):((Extern.ReflectliteType.relation "AssignableTo" Extern.ReflectliteType.assignableTo) #[.agg #[(.pointer (some ⟨1,34,none⟩))],(.iface 177 (.agg #[.pointer (some ⟨1,34,none⟩)]))]).run prog w= .ok (.bool true) w:=by kernel_rfl
theorem Qt1 (w:World):((Extern.ReflectliteType.method fun t=>do Extern.Rtype.noPackHeld "Comparable" t;pure (.bool (←typeInfo t).comparable)) #[.agg #[(.pointer (some ⟨1,34,none⟩))]]).run prog w= .ok (.bool true) w:=by kernel_rfl
theorem Qy4 (w:World):((Extern.ReflectliteType.method Extern.ReflectliteType.elem) #[.agg #[(.pointer (some ⟨1,124,none⟩))]]).run prog w= .ok (.iface 177 (.agg #[.pointer (some ⟨1,114,none⟩)])) w:=by kernel_rfl
theorem Qy5 (w:World):((Extern.ReflectliteType.method Extern.ReflectliteType.elem) #[.agg #[(.pointer (some ⟨1,125,none⟩))]]).run prog w= .ok (.iface 177 (.agg #[.pointer (some ⟨1,34,none⟩)])) w:=by kernel_rfl
theorem Qo3 (w:World):((Extern.ReflectliteType.relation "Implements" Extern.ReflectliteType.implements_) #[.agg #[(.pointer (some ⟨1,114,none⟩))],(.iface 177 (.agg #[.pointer (some ⟨1,31,none⟩)]))]).run prog w= .ok (.bool true) w:=by kernel_rfl
theorem Qp4 (w:World):((Extern.ReflectliteType.relation "Implements" Extern.ReflectliteType.implements_) #[.agg #[(.pointer (some ⟨1,34,none⟩))],(.iface 177 (.agg #[.pointer (some ⟨1,31,none⟩)]))]).run prog w= .ok (.bool true) w:=by kernel_rfl
theorem Qy6 (w:World):((Extern.ReflectliteType.abiMethod fun t=>do pure (.int .u8 (←Extern.Rtype.kind t))) #[(.pointer (some ⟨1,114,none⟩))]).run prog w= .ok (.int .u8 (25:Int)) w:=by kernel_rfl
theorem Qy7 (w:World):((Extern.ReflectliteType.abiMethod fun t=>do pure (.int .u8 (←Extern.Rtype.kind t))) #[(.pointer (some ⟨1,124,none⟩))]).run prog w= .ok (.int .u8 (22:Int)) w:=by kernel_rfl
theorem Qy8 (w:World):((Extern.ReflectliteType.abiMethod fun t=>do pure (.int .u8 (←Extern.Rtype.kind t))) #[(.pointer (some ⟨1,125,none⟩))]).run prog w= .ok (.int .u8 (22:Int)) w:=by kernel_rfl
theorem Q0O (w:World):((Extern.ReflectliteType.abiMethod fun t=>do pure (.int .u8 (←Extern.Rtype.kind t))) #[(.pointer (some ⟨1,34,none⟩))]).run prog w= .ok (.int .u8 (2:Int)) w:=by kernel_rfl
theorem Q1M:QdE prog 109=true:=by kernel_rfl
theorem Q5Z:QdE prog 124=true:=by kernel_rfl
theorem Q50:QdE prog 125=true:=by kernel_rfl
theorem Q51:QdE prog 134=true:=by kernel_rfl
theorem Q8D:QdE prog 205=true:=by kernel_rfl
theorem Q8E:QdE prog 208=true:=by kernel_rfl
theorem pl22:QdE prog 22=true:=by kernel_rfl
theorem pl24:QdE prog 24=true:=by kernel_rfl
theorem pl25:QdE prog 25=true:=by kernel_rfl
theorem pl26:QdE prog 26=true:=by kernel_rfl
theorem pl27:QdE prog 27=true:=by kernel_rfl
theorem pl3:QdE prog 3=true:=by kernel_rfl
theorem pl31:QdE prog 31=true:=by kernel_rfl
theorem pl34:QdE prog 34=true:=by kernel_rfl
theorem pl4:QdE prog 4=true:=by kernel_rfl
theorem pl48:QdE prog 48=true:=by kernel_rfl
theorem pl5:QdE prog 5=true:=by kernel_rfl
theorem pl51:QdE prog 51=true:=by kernel_rfl
theorem pl56:QdE prog 56=true:=by kernel_rfl
theorem pl59:QdE prog 59=true:=by kernel_rfl
theorem pl61:QdE prog 61=true:=by kernel_rfl
theorem pl63:QdE prog 63=true:=by kernel_rfl
theorem pl68:QdE prog 68=true:=by kernel_rfl
theorem pl9:QdE prog 9=true:=by kernel_rfl
theorem Q1N (a:Addr) (w:World):(Extern.ReflectliteValue.parts (.agg #[(.pointer (some ⟨1,114,none⟩)), .pointer (some a), .int .u64 153])).run prog w= .ok (some (114,a,153)) w:=by kernel_rfl
theorem Q1O (a:Addr) (w:World):(Extern.ReflectliteValue.parts (.agg #[(.pointer (some ⟨1,114,none⟩)), .pointer (some a), .int .u64 409])).run prog w= .ok (some (114,a,409)) w:=by kernel_rfl
theorem QxW (a:Addr) (w:World):(Extern.ReflectliteValue.parts (.agg #[(.pointer (some ⟨1,124,none⟩)), .pointer (some a), .int .u64 150])).run prog w= .ok (some (124,a,150)) w:=by kernel_rfl
theorem QxX (a:Addr) (w:World):(Extern.ReflectliteValue.parts (.agg #[(.pointer (some ⟨1,125,none⟩)), .pointer (some a), .int .u64 150])).run prog w= .ok (some (125,a,150)) w:=by kernel_rfl
theorem Q27 (a:Addr) (w:World):(Extern.ReflectliteValue.parts (.agg #[(.pointer (some ⟨1,34,none⟩)), .pointer (some a), .int .u64 130])).run prog w= .ok (some (34,a,130)) w:=by kernel_rfl
theorem Q28 (a:Addr) (w:World):(Extern.ReflectliteValue.parts (.agg #[(.pointer (some ⟨1,34,none⟩)), .pointer (some a), .int .u64 386])).run prog w= .ok (some (34,a,386)) w:=by kernel_rfl
theorem QrH:(prog.info? 102).map (·.size)=some 18:=by kernel_rfl
theorem Q4O:(prog.info? 106).map (·.size)=some 2:=by kernel_rfl
theorem Q52:(prog.info? 109).map (·.size)=some 1:=by kernel_rfl
theorem Q53:(prog.info? 114).map (·.size)=some 3:=by kernel_rfl
theorem QgS:(prog.info? 116).map (·.size)=some 4:=by kernel_rfl
theorem QiH:(prog.info? 130).map (·.size)=some 3:=by kernel_rfl
theorem QvW:(prog.info? 156).map (·.size)=some 3:=by kernel_rfl
theorem sz22:(prog.info? 22).map (·.size)=some 1:=by kernel_rfl
theorem sz24:(prog.info? 24).map (·.size)=some 1:=by kernel_rfl
theorem sz25:(prog.info? 25).map (·.size)=some 1:=by kernel_rfl
theorem sz26:(prog.info? 26).map (·.size)=some 1:=by kernel_rfl
theorem sz27:(prog.info? 27).map (·.size)=some 1:=by kernel_rfl
theorem sz29:(prog.info? 29).map (·.size)=some 5:=by kernel_rfl
theorem sz3:(prog.info? 3).map (·.size)=some 1:=by kernel_rfl
theorem sz31:(prog.info? 31).map (·.size)=some 1:=by kernel_rfl
theorem sz34:(prog.info? 34).map (·.size)=some 1:=by kernel_rfl
theorem sz36:(prog.info? 36).map (·.size)=some 3:=by kernel_rfl
theorem sz4:(prog.info? 4).map (·.size)=some 1:=by kernel_rfl
theorem sz48:(prog.info? 48).map (·.size)=some 1:=by kernel_rfl
theorem sz5:(prog.info? 5).map (·.size)=some 1:=by kernel_rfl
theorem sz50:(prog.info? 50).map (·.size)=some 3:=by kernel_rfl
theorem sz51:(prog.info? 51).map (·.size)=some 1:=by kernel_rfl
theorem sz53:(prog.info? 53).map (·.size)=some 6:=by kernel_rfl
theorem sz56:(prog.info? 56).map (·.size)=some 1:=by kernel_rfl
theorem sz59:(prog.info? 59).map (·.size)=some 1:=by kernel_rfl
theorem sz61:(prog.info? 61).map (·.size)=some 1:=by kernel_rfl
theorem sz63:(prog.info? 63).map (·.size)=some 1:=by kernel_rfl
theorem sz66:(prog.info? 66).map (·.size)=some 5:=by kernel_rfl
theorem sz68:(prog.info? 68).map (·.size)=some 1:=by kernel_rfl
theorem sz74:(prog.info? 74).map (·.size)=some 3:=by kernel_rfl
theorem sz78:(prog.info? 78).map (·.size)=some 3:=by kernel_rfl
theorem sz84:(prog.info? 84).map (·.size)=some 4:=by kernel_rfl
theorem sz9:(prog.info? 9).map (·.size)=some 1:=by kernel_rfl
theorem ty0 (v:Value) (w:World):(Extern.ReflectliteType.typeOf #[.iface 0 v]).run prog w= .ok (.iface 177 (.agg #[(.pointer (some ⟨1,0,none⟩))])) w:=by kernel_rfl
theorem Q54 (v:Value) (w:World):(Extern.ReflectliteType.typeOf #[.iface 114 v]).run prog w= .ok (.iface 177 (.agg #[(.pointer (some ⟨1,114,none⟩))])) w:=by kernel_rfl
theorem ty34 (v:Value) (w:World):(Extern.ReflectliteType.typeOf #[.iface 34 v]).run prog w= .ok (.iface 177 (.agg #[(.pointer (some ⟨1,34,none⟩))])) w:=by kernel_rfl
theorem Q55 (w:World):(Extern.ReflectliteType.typeOf #[.nilIface]).run prog w= .ok .nilIface w:=by kernel_rfl
theorem QlR:(prog.underlying 109).isSome=true:=by kernel_rfl
theorem Q56:(prog.underlying 143).isSome=true:=by kernel_rfl
theorem us3:(prog.underlying 3).isSome=true:=by kernel_rfl
theorem us5:(prog.underlying 5).isSome=true:=by kernel_rfl
theorem Q8F (o:ByteArray) (n:Int) (e:Value) (w:World):(Extern.ReflectliteValue.unpack (.iface 114 (.agg #[.string o, .int .i64 n,e]))).run prog w= .ok (.agg #[(.pointer (some ⟨1,114,none⟩)), .pointer (some ⟨w.heap.size,0,none⟩), .int .u64 153]) (w.alloc (.cells #[.string o, .int .i64 n,e] 114)):=by kernel_rfl
theorem Q8G (p:Addr) (w:World):(Extern.ReflectliteValue.unpack (.iface 124 (.pointer (some p)))).run prog w= .ok (.agg #[(.pointer (some ⟨1,124,none⟩)), .pointer (some ⟨w.heap.size,0,none⟩), .int .u64 150]) (w.alloc (.cells #[.pointer (some p)] 124)):=by kernel_rfl
theorem Q8H (p:Addr) (w:World):(Extern.ReflectliteValue.unpack (.iface 125 (.pointer (some p)))).run prog w= .ok (.agg #[(.pointer (some ⟨1,125,none⟩)), .pointer (some ⟨w.heap.size,0,none⟩), .int .u64 150]) (w.alloc (.cells #[.pointer (some p)] 125)):=by kernel_rfl
theorem vo34 (n:Int) (w:World):(Extern.ReflectliteValue.unpack (.iface 34 (.int .i64 n))).run prog w= .ok (.agg #[(.pointer (some ⟨1,34,none⟩)), .pointer (some ⟨w.heap.size,0,none⟩), .int .u64 130]) (w.alloc (.cells #[.int .i64 n] 34)):=by kernel_rfl
theorem Q1P (a:Addr) (w:World):((Extern.ReflectliteValue.methodAny (Extern.ReflectliteValue.valueError "reflectlite.Value.Type" 0) (fun t _ _ _=>Extern.ReflectliteType.toType t)) #[.agg #[(.pointer (some ⟨1,124,none⟩)), .pointer (some a), .int .u64 150]]).run prog w= .ok (.iface 177 (.agg #[(.pointer (some ⟨1,124,none⟩))])) w:=by kernel_rfl
theorem Q1Q (a:Addr) (w:World):((Extern.ReflectliteValue.methodAny (Extern.ReflectliteValue.valueError "reflectlite.Value.Type" 0) (fun t _ _ _=>Extern.ReflectliteType.toType t)) #[.agg #[(.pointer (some ⟨1,125,none⟩)), .pointer (some a), .int .u64 150]]).run prog w= .ok (.iface 177 (.agg #[(.pointer (some ⟨1,125,none⟩))])) w:=by kernel_rfl
theorem Q57:QmX prog 125 (Extern.ReflectliteValue.method (Extern.ReflectliteValue.valueError "reflectlite.Value.Elem" 0) Extern.ReflectliteValue.elem):=fun args w=>run_callFunc_extern (e:=(Extern.ReflectliteValue.method (Extern.ReflectliteValue.valueError "reflectlite.Value.Elem" 0) Extern.ReflectliteValue.elem)) func125 (by kernel_rfl) (by kernel_rfl) (by kernel_rfl) (by kernel_rfl) args w
theorem Q58:QmX prog 126 Extern.ReflectliteValue.set:=fun args w=>run_callFunc_extern (e:=Extern.ReflectliteValue.set) func126 (by kernel_rfl) (by kernel_rfl) (by kernel_rfl) (by kernel_rfl) args w
theorem Q29:QmX prog 157 (Extern.ReflectliteType.abiMethod fun t=>do pure (.int .u8 (←Extern.Rtype.kind t))):=fun args w=>run_callFunc_extern (e:=(Extern.ReflectliteType.abiMethod fun t=>do pure (.int .u8 (←Extern.Rtype.kind t)))) func157 (by kernel_rfl) (by kernel_rfl) (by kernel_rfl) (by kernel_rfl) args w
theorem Q0P:QmX prog 168 (Extern.ReflectliteType.relation "AssignableTo" Extern.ReflectliteType.assignableTo):=fun args w=>run_callFunc_extern (e:=(Extern.ReflectliteType.relation "AssignableTo" Extern.ReflectliteType.assignableTo)) func168 (by kernel_rfl) (by kernel_rfl) (by kernel_rfl) (by kernel_rfl) args w
theorem Q8I:QmX prog 169 (Extern.ReflectliteType.method fun t=>do Extern.Rtype.noPackHeld "Comparable" t;pure (.bool (←typeInfo t).comparable)):=fun args w=>run_callFunc_extern (e:=(Extern.ReflectliteType.method fun t=>do Extern.Rtype.noPackHeld "Comparable" t;pure (.bool (←typeInfo t).comparable))) func169 (by kernel_rfl) (by kernel_rfl) (by kernel_rfl) (by kernel_rfl) args w
theorem Q59:QmX prog 170 (Extern.ReflectliteType.method Extern.ReflectliteType.elem):=fun args w=>run_callFunc_extern (e:=(Extern.ReflectliteType.method Extern.ReflectliteType.elem)) func170 (by kernel_rfl) (by kernel_rfl) (by kernel_rfl) (by kernel_rfl) args w
theorem Q6A:QmX prog 171 (Extern.ReflectliteType.relation "Implements" Extern.ReflectliteType.implements_):=fun args w=>run_callFunc_extern (e:=(Extern.ReflectliteType.relation "Implements" Extern.ReflectliteType.implements_)) func171 (by kernel_rfl) (by kernel_rfl) (by kernel_rfl) (by kernel_rfl) args w
theorem xt79:QmX prog 79 Extern.ReflectliteType.typeOf:=fun args w=>run_callFunc_extern (e:=Extern.ReflectliteType.typeOf) func79 (by kernel_rfl) (by kernel_rfl) (by kernel_rfl) (by kernel_rfl) args w
theorem xt97:QmX prog 97 (fun args=>Extern.ReflectliteValue.unpack (args.getD 0 (.tuple #[]))):=fun args w=>run_callFunc_extern (e:=(fun args=>Extern.ReflectliteValue.unpack (args.getD 0 (.tuple #[])))) func97 (by kernel_rfl) (by kernel_rfl) (by kernel_rfl) (by kernel_rfl) args w
theorem xt98:QmX prog 98 (Extern.ReflectliteValue.methodAny (Extern.ReflectliteValue.valueError "reflectlite.Value.Type" 0) (fun t _ _ _=>Extern.ReflectliteType.toType t)):=fun args w=>run_callFunc_extern (e:=(Extern.ReflectliteValue.methodAny (Extern.ReflectliteValue.valueError "reflectlite.Value.Type" 0) (fun t _ _ _=>Extern.ReflectliteType.toType t))) func98 (by kernel_rfl) (by kernel_rfl) (by kernel_rfl) (by kernel_rfl) args w
theorem xt99:QmX prog 99 (Extern.ReflectliteValue.method (Extern.ReflectliteValue.valueError "reflectlite.Value.IsNil" 0) Extern.ReflectliteValue.isNil):=fun args w=>run_callFunc_extern (e:=(Extern.ReflectliteValue.method (Extern.ReflectliteValue.valueError "reflectlite.Value.IsNil" 0) Extern.ReflectliteValue.isNil)) func99 (by kernel_rfl) (by kernel_rfl) (by kernel_rfl) (by kernel_rfl) args w
theorem Q0Q:(prog.info? 102).map (·.zero)=some (some (.agg #[(.int .i64 (0:Int)),(.int .i64 (0:Int)),(.int .i64 (0:Int)),(.int .i64 (0:Int)),(.int .i64 (0:Int)),(.int .i64 (0:Int)),(.int .i64 (0:Int)),(.int .i64 (0:Int)),(.int .i64 (0:Int)),(.bool false),(.string (⟨#[]⟩:ByteArray)),(.string (⟨#[]⟩:ByteArray)),(.string (⟨#[]⟩:ByteArray)),(.string (⟨#[]⟩:ByteArray)),(.slice none 0 0),(.slice none 0 0),(.slice none 0 0),(.slice none 0 0)])):=by kernel_rfl
theorem Q6B:(prog.info? 106).map (·.zero)=some (some (.agg #[(.int .i64 (0:Int)),(.int .i64 (0:Int))])):=by kernel_rfl
theorem Q8J:(prog.info? 108).map (·.zero)=some (some (.agg #[(.slice none 0 0),(.int .i64 (0:Int)),(.nilIface)])):=by kernel_rfl
theorem Q8K:(prog.info? 109).map (·.zero)=some (some (.int .u64 (0:Int))):=by kernel_rfl
theorem Q3A:(prog.info? 114).map (·.zero)=some (some (.agg #[(.string (⟨#[]⟩:ByteArray)),(.int .i64 (0:Int)),(.nilIface)])):=by kernel_rfl
theorem Qi6:(prog.info? 116).map (·.zero)=some (some (.agg #[(.int .u64 (0:Int)),(.bool false),(.slice none 0 0),(.slice none 0 0)])):=by kernel_rfl
theorem QfJ:(prog.info? 120).map (·.zero)=some (some (.agg #[(.int .i64 (0:Int)),(.int .i64 (0:Int)),(.int .i64 (0:Int))])):=by kernel_rfl
theorem QoB:(prog.info? 130).map (·.zero)=some (some (.agg #[(.string (⟨#[]⟩:ByteArray)),(.int .i64 (0:Int)),(.int .i64 (0:Int))])):=by kernel_rfl
theorem Q6C:(prog.info? 156).map (·.zero)=some (some (.agg #[(.pointer none),(.pointer none),(.int .u64 (0:Int))])):=by kernel_rfl
theorem ze22:(prog.info? 22).map (·.zero)=some (some (.slice none 0 0)):=by kernel_rfl
theorem ze29:(prog.info? 29).map (·.zero)=some (some (.agg #[(.slice none 0 0),(.slice none 0 0),(.slice none 0 0),(.slice none 0 0),(.int .i64 (0:Int))])):=by kernel_rfl
theorem ze3:(prog.info? 3).map (·.zero)=some (some (.int .i64 (0:Int))):=by kernel_rfl
theorem ze34:(prog.info? 34).map (·.zero)=some (some (.int .i64 (0:Int))):=by kernel_rfl
theorem ze36:(prog.info? 36).map (·.zero)=some (some (.agg #[(.string (⟨#[]⟩:ByteArray)),(.int .i64 (0:Int)),(.int .i64 (0:Int))])):=by kernel_rfl
theorem ze50:(prog.info? 50).map (·.zero)=some (some (.agg #[(.int .i64 (0:Int)),(.string (⟨#[]⟩:ByteArray)),(.slice none 0 0)])):=by kernel_rfl
theorem ze53:(prog.info? 53).map (·.zero)=some (some (.agg #[(.slice none 0 0),(.slice none 0 0),(.int .i64 (0:Int)),(.int .i64 (0:Int)),(.slice none 0 0),(.slice none 0 0)])):=by kernel_rfl
theorem ze56:(prog.info? 56).map (·.zero)=some (some (.pointer none)):=by kernel_rfl
theorem ze59:(prog.info? 59).map (·.zero)=some (some .nilFunc):=by kernel_rfl
theorem ze61:(prog.info? 61).map (·.zero)=some (some .nilFunc):=by kernel_rfl
theorem ze63:(prog.info? 63).map (·.zero)=some (some .nilFunc):=by kernel_rfl
theorem ze66:(prog.info? 66).map (·.zero)=some (some (.agg #[(.int .i64 (0:Int)),(.int .i64 (0:Int)),(.string (⟨#[]⟩:ByteArray)),(.bool false),(.bool false)])):=by kernel_rfl
theorem ze68:(prog.info? 68).map (·.zero)=some (some .nilFunc):=by kernel_rfl
theorem ze74:(prog.info? 74).map (·.zero)=some (some (.agg #[(.int .i64 (0:Int)),(.string (⟨#[]⟩:ByteArray)),(.string (⟨#[]⟩:ByteArray))])):=by kernel_rfl
theorem ze78:(prog.info? 78).map (·.zero)=some (some (.agg #[(.int .i64 (0:Int)),(.int .i64 (0:Int)),(.int .i64 (0:Int))])):=by kernel_rfl
theorem ze84:(prog.info? 84).map (·.zero)=some (some (.agg #[(.int .i64 (0:Int)),(.int .i64 (0:Int)),(.string (⟨#[]⟩:ByteArray)),(.int .i64 (0:Int))])):=by kernel_rfl
theorem ze86:(prog.info? 86).map (·.zero)=some (some (.agg #[(.slice none 0 0),(.int .i64 (0:Int)),(.int .i64 (0:Int)),(.string (⟨#[]⟩:ByteArray)),(.int .i64 (0:Int))])):=by kernel_rfl
theorem Q8L:(prog.info? 179).map (·.zero)=some (some .nilIface):=by kernel_rfl
theorem Q8M:(prog.info? 182).map (·.zero)=some (some .nilIface):=by kernel_rfl
theorem Q8N:(prog.info? 183).map (·.zero)=some (some .nilIface):=by kernel_rfl
theorem Qc3:prog.follows .mixedOrders=true:=by kernel_rfl
abbrev Q1R:QaM:=⟨(⟨#[]⟩:ByteArray),(0:Int),(0:Int)⟩
abbrev Q4P:QaO:=⟨(4:Int),(2:Int),(1:Int),(0:Int),(0:Int),(0:Int),(0:Int),(0:Int),(0:Int),false,(⟨#[]⟩:ByteArray),(⟨#[]⟩:ByteArray),(⟨#[]⟩:ByteArray),(⟨#[]⟩:ByteArray),[],[],[],[]⟩
abbrev Q4Q:QaO:=⟨(4:Int),(1:Int),(1:Int),(0:Int),(0:Int),(0:Int),(0:Int),(0:Int),(0:Int),false,(⟨#[]⟩:ByteArray),(⟨#[]⟩:ByteArray),(⟨#[]⟩:ByteArray),(⟨#[]⟩:ByteArray),[],[],[],[]⟩
abbrev Q4R:QaO:=⟨(2:Int),(2:Int),(1:Int),(0:Int),(0:Int),(0:Int),(0:Int),(0:Int),(0:Int),false,(⟨#[]⟩:ByteArray),(⟨#[]⟩:ByteArray),(⟨#[]⟩:ByteArray),(⟨#[98]⟩:ByteArray),[],[],[],[]⟩
abbrev Q4S:QaO:=⟨(2:Int),(1:Int),(1:Int),(0:Int),(0:Int),(0:Int),(0:Int),(0:Int),(0:Int),false,(⟨#[]⟩:ByteArray),(⟨#[]⟩:ByteArray),(⟨#[]⟩:ByteArray),(⟨#[97]⟩:ByteArray),[],[],[],[]⟩
abbrev Q4T:QaO:=⟨(7:Int),(0:Int),(0:Int),(1:Int),(0:Int),(0:Int),(0:Int),(0:Int),(0:Int),false,(⟨#[116]⟩:ByteArray),(⟨#[]⟩:ByteArray),(⟨#[]⟩:ByteArray),(⟨#[]⟩:ByteArray),[],[],[],[]⟩
abbrev Q4U:QaO:=⟨(8:Int),(0:Int),(0:Int),(1:Int),(0:Int),(1:Int),(0:Int),(0:Int),(0:Int),false,(⟨#[]⟩:ByteArray),(⟨#[]⟩:ByteArray),(⟨#[]⟩:ByteArray),(⟨#[]⟩:ByteArray),[(1:Int),(2:Int)],[(1:Int),(2:Int)],[],[]⟩
end Go.Proofs.YtfkmkgpoddbbfaaGreatDoor.G
