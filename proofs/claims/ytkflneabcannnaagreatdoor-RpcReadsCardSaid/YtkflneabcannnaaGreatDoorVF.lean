/- Closed facts on the program's types. Printed by a program of the session (gen). -/
import Derived.Test.YtkflneabcannnaaGreatDoorVT
import Derived.Test.YtkflneabcannnaaGreatDoorProg
set_option linter.unusedVariables false
set_option linter.unusedSimpArgs false
set_option maxHeartbeats 8000000
set_option maxRecDepth 100000
namespace Go.Proofs.YtkflneabcannnaaGreatDoor.G
open Go Go.KK
open PO EO IntKind Sum Tryz
def Env (M:IM):Prop:=M.cell ⟨0,0,none⟩=some (.iface 184 (.agg #[(.pointer (some ⟨1,31,none⟩))]))
theorem Env.mono {M M':IM}(h:Env M) (hle:M.le M'):Env M':=hle.cell h
theorem ag108:aggB prog 108=true:=by kernel_rfl
theorem ag130:aggB prog 130=true:=by kernel_rfl
theorem ag153:aggB prog 153=true:=by kernel_rfl
theorem ag164:aggB prog 164=true:=by kernel_rfl
theorem ag166:aggB prog 166=true:=by kernel_rfl
theorem ag25:aggB prog 25=true:=by kernel_rfl
theorem ag29:aggB prog 29=true:=by kernel_rfl
theorem ag40:aggB prog 40=true:=by kernel_rfl
theorem ag42:aggB prog 42=true:=by kernel_rfl
theorem ag55:aggB prog 55=true:=by kernel_rfl
theorem ag58:aggB prog 58=true:=by kernel_rfl
theorem ag85:aggB prog 85=true:=by kernel_rfl
theorem ag96:aggB prog 96=true:=by kernel_rfl
theorem cc108:prog.concrete 108=true:=by kernel_rfl
theorem cc118:prog.concrete 118=true:=by kernel_rfl
theorem cc119:prog.concrete 119=true:=by kernel_rfl
theorem cc38:prog.concrete 38=true:=by kernel_rfl
theorem cm38:(prog.info? 38).map (·.comparable)=some true:=by kernel_rfl
theorem co10:callOk prog 10=true:=by kernel_rfl
theorem co100:callOk prog 100=true:=by kernel_rfl
theorem co101:callOk prog 101=true:=by kernel_rfl
theorem co102:callOk prog 102=true:=by kernel_rfl
theorem co103:callOk prog 103=true:=by kernel_rfl
theorem co104:callOk prog 104=true:=by kernel_rfl
theorem co105:callOk prog 105=true:=by kernel_rfl
theorem co106:callOk prog 106=true:=by kernel_rfl
theorem co107:callOk prog 107=true:=by kernel_rfl
theorem co11:callOk prog 11=true:=by kernel_rfl
theorem co111:callOk prog 111=true:=by kernel_rfl
theorem co112:callOk prog 112=true:=by kernel_rfl
theorem co113:callOk prog 113=true:=by kernel_rfl
theorem co114:callOk prog 114=true:=by kernel_rfl
theorem co115:callOk prog 115=true:=by kernel_rfl
theorem co116:callOk prog 116=true:=by kernel_rfl
theorem co117:callOk prog 117=true:=by kernel_rfl
theorem co118:callOk prog 118=true:=by kernel_rfl
theorem co119:callOk prog 119=true:=by kernel_rfl
theorem co12:callOk prog 12=true:=by kernel_rfl
theorem co120:callOk prog 120=true:=by kernel_rfl
theorem co121:callOk prog 121=true:=by kernel_rfl
theorem co125:callOk prog 125=true:=by kernel_rfl
theorem co126:callOk prog 126=true:=by kernel_rfl
theorem co127:callOk prog 127=true:=by kernel_rfl
theorem co128:callOk prog 128=true:=by kernel_rfl
theorem co129:callOk prog 129=true:=by kernel_rfl
theorem co13:callOk prog 13=true:=by kernel_rfl
theorem co130:callOk prog 130=true:=by kernel_rfl
theorem co131:callOk prog 131=true:=by kernel_rfl
theorem co132:callOk prog 132=true:=by kernel_rfl
theorem co133:callOk prog 133=true:=by kernel_rfl
theorem co134:callOk prog 134=true:=by kernel_rfl
theorem co135:callOk prog 135=true:=by kernel_rfl
theorem co136:callOk prog 136=true:=by kernel_rfl
theorem co139:callOk prog 139=true:=by kernel_rfl
theorem co14:callOk prog 14=true:=by kernel_rfl
theorem co140:callOk prog 140=true:=by kernel_rfl
theorem co144:callOk prog 144=true:=by kernel_rfl
theorem co145:callOk prog 145=true:=by kernel_rfl
theorem co146:callOk prog 146=true:=by kernel_rfl
theorem co148:callOk prog 148=true:=by kernel_rfl
theorem co15:callOk prog 15=true:=by kernel_rfl
theorem co16:callOk prog 16=true:=by kernel_rfl
theorem co168:callOk prog 168=true:=by kernel_rfl
theorem co17:callOk prog 17=true:=by kernel_rfl
theorem co18:callOk prog 18=true:=by kernel_rfl
theorem co20:callOk prog 20=true:=by kernel_rfl
theorem co22:callOk prog 22=true:=by kernel_rfl
theorem co23:callOk prog 23=true:=by kernel_rfl
theorem co24:callOk prog 24=true:=by kernel_rfl
theorem co25:callOk prog 25=true:=by kernel_rfl
theorem co26:callOk prog 26=true:=by kernel_rfl
theorem co27:callOk prog 27=true:=by kernel_rfl
theorem co28:callOk prog 28=true:=by kernel_rfl
theorem co29:callOk prog 29=true:=by kernel_rfl
theorem co30:callOk prog 30=true:=by kernel_rfl
theorem co31:callOk prog 31=true:=by kernel_rfl
theorem co32:callOk prog 32=true:=by kernel_rfl
theorem co33:callOk prog 33=true:=by kernel_rfl
theorem co34:callOk prog 34=true:=by kernel_rfl
theorem co35:callOk prog 35=true:=by kernel_rfl
theorem co36:callOk prog 36=true:=by kernel_rfl
theorem co37:callOk prog 37=true:=by kernel_rfl
theorem co38:callOk prog 38=true:=by kernel_rfl
theorem co39:callOk prog 39=true:=by kernel_rfl
theorem co40:callOk prog 40=true:=by kernel_rfl
theorem co41:callOk prog 41=true:=by kernel_rfl
theorem co42:callOk prog 42=true:=by kernel_rfl
theorem co43:callOk prog 43=true:=by kernel_rfl
theorem co44:callOk prog 44=true:=by kernel_rfl
theorem co45:callOk prog 45=true:=by kernel_rfl
theorem co46:callOk prog 46=true:=by kernel_rfl
theorem co47:callOk prog 47=true:=by kernel_rfl
theorem co48:callOk prog 48=true:=by kernel_rfl
theorem co49:callOk prog 49=true:=by kernel_rfl
theorem co50:callOk prog 50=true:=by kernel_rfl
theorem co51:callOk prog 51=true:=by kernel_rfl
theorem co52:callOk prog 52=true:=by kernel_rfl
theorem co53:callOk prog 53=true:=by kernel_rfl
theorem co54:callOk prog 54=true:=by kernel_rfl
theorem co55:callOk prog 55=true:=by kernel_rfl
theorem co58:callOk prog 58=true:=by kernel_rfl
theorem co59:callOk prog 59=true:=by kernel_rfl
theorem co60:callOk prog 60=true:=by kernel_rfl
theorem co61:callOk prog 61=true:=by kernel_rfl
theorem co62:callOk prog 62=true:=by kernel_rfl
theorem co63:callOk prog 63=true:=by kernel_rfl
theorem co65:callOk prog 65=true:=by kernel_rfl
theorem co66:callOk prog 66=true:=by kernel_rfl
theorem co67:callOk prog 67=true:=by kernel_rfl
theorem co68:callOk prog 68=true:=by kernel_rfl
theorem co69:callOk prog 69=true:=by kernel_rfl
theorem co70:callOk prog 70=true:=by kernel_rfl
theorem co71:callOk prog 71=true:=by kernel_rfl
theorem co72:callOk prog 72=true:=by kernel_rfl
theorem co73:callOk prog 73=true:=by kernel_rfl
theorem co74:callOk prog 74=true:=by kernel_rfl
theorem co75:callOk prog 75=true:=by kernel_rfl
theorem co76:callOk prog 76=true:=by kernel_rfl
theorem co77:callOk prog 77=true:=by kernel_rfl
theorem co78:callOk prog 78=true:=by kernel_rfl
theorem co79:callOk prog 79=true:=by kernel_rfl
theorem co80:callOk prog 80=true:=by kernel_rfl
theorem co86:callOk prog 86=true:=by kernel_rfl
theorem co87:callOk prog 87=true:=by kernel_rfl
theorem co88:callOk prog 88=true:=by kernel_rfl
theorem co89:callOk prog 89=true:=by kernel_rfl
theorem co9:callOk prog 9=true:=by kernel_rfl
theorem co90:callOk prog 90=true:=by kernel_rfl
theorem co92:callOk prog 92=true:=by kernel_rfl
theorem co93:callOk prog 93=true:=by kernel_rfl
theorem co94:callOk prog 94=true:=by kernel_rfl
theorem co95:callOk prog 95=true:=by kernel_rfl
theorem co96:callOk prog 96=true:=by kernel_rfl
theorem co97:callOk prog 97=true:=by kernel_rfl
theorem co98:callOk prog 98=true:=by kernel_rfl
theorem co99:callOk prog 99=true:=by kernel_rfl
theorem da108 (w:World):(Extern.Rtype.directlyAssignable 108 108).run prog w= .ok true w:=by kernel_rfl
theorem da38 (w:World):(Extern.Rtype.directlyAssignable 38 38).run prog w= .ok true w:=by kernel_rfl
theorem eg164:prog.eqGuardType prog.depth 164=false:=by kernel_rfl
theorem eg166:prog.eqGuardType prog.depth 166=false:=by kernel_rfl
theorem eg85:prog.eqGuardType prog.depth 85=false:=by kernel_rfl
theorem el118 (w:World):(Extern.Rtype.elem? 118).run prog w= .ok (some 108) w:=by kernel_rfl
theorem el119 (w:World):(Extern.Rtype.elem? 119).run prog w= .ok (some 38) w:=by kernel_rfl
theorem fo108_0:fldOff prog 108 0=some 0:=by kernel_rfl
theorem fo108_1:fldOff prog 108 1=some 1:=by kernel_rfl
theorem fo108_2:fldOff prog 108 2=some 2:=by kernel_rfl
theorem fo110_0:fldOff prog 110 0=some 0:=by kernel_rfl
theorem fo110_1:fldOff prog 110 1=some 1:=by kernel_rfl
theorem fo110_2:fldOff prog 110 2=some 2:=by kernel_rfl
theorem fo130_0:fldOff prog 130 0=some 0:=by kernel_rfl
theorem fo130_1:fldOff prog 130 1=some 1:=by kernel_rfl
theorem fo130_2:fldOff prog 130 2=some 2:=by kernel_rfl
theorem fo130_3:fldOff prog 130 3=some 3:=by kernel_rfl
theorem fo134_0:fldOff prog 134 0=some 0:=by kernel_rfl
theorem fo134_1:fldOff prog 134 1=some 1:=by kernel_rfl
theorem fo134_2:fldOff prog 134 2=some 2:=by kernel_rfl
theorem fo25_0:fldOff prog 25 0=some 0:=by kernel_rfl
theorem fo25_1:fldOff prog 25 1=some 1:=by kernel_rfl
theorem fo25_10:fldOff prog 25 10=some 10:=by kernel_rfl
theorem fo25_11:fldOff prog 25 11=some 11:=by kernel_rfl
theorem fo25_12:fldOff prog 25 12=some 12:=by kernel_rfl
theorem fo25_13:fldOff prog 25 13=some 13:=by kernel_rfl
theorem fo25_14:fldOff prog 25 14=some 14:=by kernel_rfl
theorem fo25_2:fldOff prog 25 2=some 2:=by kernel_rfl
theorem fo25_3:fldOff prog 25 3=some 3:=by kernel_rfl
theorem fo25_4:fldOff prog 25 4=some 4:=by kernel_rfl
theorem fo25_5:fldOff prog 25 5=some 5:=by kernel_rfl
theorem fo25_6:fldOff prog 25 6=some 6:=by kernel_rfl
theorem fo25_7:fldOff prog 25 7=some 7:=by kernel_rfl
theorem fo25_8:fldOff prog 25 8=some 8:=by kernel_rfl
theorem fo25_9:fldOff prog 25 9=some 9:=by kernel_rfl
theorem fo29_0:fldOff prog 29 0=some 0:=by kernel_rfl
theorem fo29_1:fldOff prog 29 1=some 1:=by kernel_rfl
theorem fo40_0:fldOff prog 40 0=some 0:=by kernel_rfl
theorem fo40_1:fldOff prog 40 1=some 1:=by kernel_rfl
theorem fo40_2:fldOff prog 40 2=some 2:=by kernel_rfl
theorem fo42_0:fldOff prog 42 0=some 0:=by kernel_rfl
theorem fo55_0:fldOff prog 55 0=some 0:=by kernel_rfl
theorem fo55_1:fldOff prog 55 1=some 1:=by kernel_rfl
theorem fo55_2:fldOff prog 55 2=some 2:=by kernel_rfl
theorem fo58_0:fldOff prog 58 0=some 0:=by kernel_rfl
theorem fo58_1:fldOff prog 58 1=some 1:=by kernel_rfl
theorem fo58_10:fldOff prog 58 10=some 10:=by kernel_rfl
theorem fo58_11:fldOff prog 58 11=some 11:=by kernel_rfl
theorem fo58_12:fldOff prog 58 12=some 12:=by kernel_rfl
theorem fo58_13:fldOff prog 58 13=some 13:=by kernel_rfl
theorem fo58_14:fldOff prog 58 14=some 14:=by kernel_rfl
theorem fo58_15:fldOff prog 58 15=some 15:=by kernel_rfl
theorem fo58_16:fldOff prog 58 16=some 16:=by kernel_rfl
theorem fo58_17:fldOff prog 58 17=some 17:=by kernel_rfl
theorem fo58_2:fldOff prog 58 2=some 2:=by kernel_rfl
theorem fo58_3:fldOff prog 58 3=some 3:=by kernel_rfl
theorem fo58_4:fldOff prog 58 4=some 4:=by kernel_rfl
theorem fo58_5:fldOff prog 58 5=some 5:=by kernel_rfl
theorem fo58_6:fldOff prog 58 6=some 6:=by kernel_rfl
theorem fo58_7:fldOff prog 58 7=some 7:=by kernel_rfl
theorem fo58_8:fldOff prog 58 8=some 8:=by kernel_rfl
theorem fo58_9:fldOff prog 58 9=some 9:=by kernel_rfl
theorem fo96_0:fldOff prog 96 0=some 0:=by kernel_rfl
theorem fo96_1:fldOff prog 96 1=some 1:=by kernel_rfl
theorem fo96_2:fldOff prog 96 2=some 2:=by kernel_rfl
theorem fo96_3:fldOff prog 96 3=some 3:=by kernel_rfl
theorem fo98_0:fldOff prog 98 0=some 0:=by kernel_rfl
theorem fo98_1:fldOff prog 98 1=some 1:=by kernel_rfl
theorem fp108:fldPlace prog 108=some [(0,1),(1,1),(2,1)]:=by kernel_rfl
theorem fp110:fldPlace prog 110=some [(0,1),(1,1),(2,1)]:=by kernel_rfl
theorem fp130:fldPlace prog 130=some [(0,1),(1,1),(2,1),(3,1)]:=by kernel_rfl
theorem fp134:fldPlace prog 134=some [(0,1),(1,1),(2,1)]:=by kernel_rfl
theorem fp25:fldPlace prog 25=some [(0,1),(1,1),(2,1),(3,1),(4,1),(5,1),(6,1),(7,1),(8,1),(9,1),(10,1),(11,1),(12,1),(13,1),(14,1)]:=by kernel_rfl
theorem fp29:fldPlace prog 29=some [(0,1),(1,1)]:=by kernel_rfl
theorem fp40:fldPlace prog 40=some [(0,1),(1,1),(2,1)]:=by kernel_rfl
theorem fp42:fldPlace prog 42=some [(0,3),(3,1)]:=by kernel_rfl
theorem fp55:fldPlace prog 55=some [(0,1),(1,1),(2,1)]:=by kernel_rfl
theorem fp58:fldPlace prog 58=some [(0,1),(1,1),(2,1),(3,1),(4,1),(5,1),(6,1),(7,1),(8,1),(9,1),(10,1),(11,1),(12,1),(13,1),(14,1),(15,1),(16,1),(17,1)]:=by kernel_rfl
theorem fp96:fldPlace prog 96=some [(0,1),(1,1),(2,1),(3,1)]:=by kernel_rfl
theorem fp98:fldPlace prog 98=some [(0,1),(1,4)]:=by kernel_rfl
theorem ha108_189 (v:Value) (xT:TypeId) (w:World):(Instr.typeAssert (.iface 108 v) xT 189 true).run prog w= .ok (.tuple #[.iface 108 v, .bool true]) w:=run_typeAssert_hasB underlying189 (by kernel_rfl) v xT w
theorem in3:(prog.info? 3).map (fun i=>(i.size,i.bytes,i.zero))=some (1,8,some (.int .i64 (0:Int))):=by kernel_rfl
theorem in5:(prog.info? 5).map (fun i=>(i.size,i.bytes,i.zero))=some (1,1,some (.int .u8 (0:Int))):=by kernel_rfl
theorem in55:(prog.info? 55).map (fun i=>(i.size,i.bytes,i.zero))=some (3,40,some (.agg #[(.int .i64 (0:Int)),(.int .i64 (0:Int)),(.slice none 0 0)])):=by kernel_rfl
theorem in58:(prog.info? 58).map (fun i=>(i.size,i.bytes,i.zero))=some (18,240,some (.agg #[(.int .i64 (0:Int)),(.int .i64 (0:Int)),(.int .i64 (0:Int)),(.int .i64 (0:Int)),(.int .i64 (0:Int)),(.int .i64 (0:Int)),(.int .i64 (0:Int)),(.int .i64 (0:Int)),(.int .i64 (0:Int)),(.bool false),(.string (⟨#[]⟩:ByteArray)),(.string (⟨#[]⟩:ByteArray)),(.string (⟨#[]⟩:ByteArray)),(.string (⟨#[]⟩:ByteArray)),(.slice none 0 0),(.slice none 0 0),(.slice none 0 0),(.slice none 0 0)])):=by kernel_rfl
theorem in9:(prog.info? 9).map (fun i=>(i.size,i.bytes,i.zero))=some (1,16,some (.string (⟨#[]⟩:ByteArray))):=by kernel_rfl
theorem iz3:(prog.info? 3).map (fun i=>(i.size,i.zero))=some (1,some (.int .i64 (0:Int))):=by kernel_rfl
theorem iz5:(prog.info? 5).map (fun i=>(i.size,i.zero))=some (1,some (.int .u8 (0:Int))):=by kernel_rfl
theorem iz55:(prog.info? 55).map (fun i=>(i.size,i.zero))=some (3,some (.agg #[(.int .i64 (0:Int)),(.int .i64 (0:Int)),(.slice none 0 0)])):=by kernel_rfl
theorem iz58:(prog.info? 58).map (fun i=>(i.size,i.zero))=some (18,some (.agg #[(.int .i64 (0:Int)),(.int .i64 (0:Int)),(.int .i64 (0:Int)),(.int .i64 (0:Int)),(.int .i64 (0:Int)),(.int .i64 (0:Int)),(.int .i64 (0:Int)),(.int .i64 (0:Int)),(.int .i64 (0:Int)),(.bool false),(.string (⟨#[]⟩:ByteArray)),(.string (⟨#[]⟩:ByteArray)),(.string (⟨#[]⟩:ByteArray)),(.string (⟨#[]⟩:ByteArray)),(.slice none 0 0),(.slice none 0 0),(.slice none 0 0),(.slice none 0 0)])):=by kernel_rfl
theorem iz9:(prog.info? 9).map (fun i=>(i.size,i.zero))=some (1,some (.string (⟨#[]⟩:ByteArray))):=by kernel_rfl
theorem la0_186 (v:Value) (xT:TypeId) (w:World):(Instr.typeAssert (.iface 0 v) xT 186 true).run prog w= .ok (.tuple #[.nilIface, .bool false]) w:=run_typeAssert_lacksB underlying186 (by kernel_rfl) (by kernel_rfl) v xT w
theorem la0_189 (v:Value) (xT:TypeId) (w:World):(Instr.typeAssert (.iface 0 v) xT 189 true).run prog w= .ok (.tuple #[.nilIface, .bool false]) w:=run_typeAssert_lacksB underlying189 (by kernel_rfl) (by kernel_rfl) v xT w
theorem la0_190 (v:Value) (xT:TypeId) (w:World):(Instr.typeAssert (.iface 0 v) xT 190 true).run prog w= .ok (.tuple #[.nilIface, .bool false]) w:=run_typeAssert_lacksB underlying190 (by kernel_rfl) (by kernel_rfl) v xT w
theorem la0_196 (v:Value) (xT:TypeId) (w:World):(Instr.typeAssert (.iface 0 v) xT 196 true).run prog w= .ok (.tuple #[.nilIface, .bool false]) w:=run_typeAssert_lacksB underlying196 (by kernel_rfl) (by kernel_rfl) v xT w
theorem la108_186 (v:Value) (xT:TypeId) (w:World):(Instr.typeAssert (.iface 108 v) xT 186 true).run prog w= .ok (.tuple #[.nilIface, .bool false]) w:=run_typeAssert_lacksB underlying186 (by kernel_rfl) (by kernel_rfl) v xT w
theorem la108_196 (v:Value) (xT:TypeId) (w:World):(Instr.typeAssert (.iface 108 v) xT 196 true).run prog w= .ok (.tuple #[.nilIface, .bool false]) w:=run_typeAssert_lacksB underlying196 (by kernel_rfl) (by kernel_rfl) v xT w
theorem la38_186 (v:Value) (xT:TypeId) (w:World):(Instr.typeAssert (.iface 38 v) xT 186 true).run prog w= .ok (.tuple #[.nilIface, .bool false]) w:=run_typeAssert_lacksB underlying186 (by kernel_rfl) (by kernel_rfl) v xT w
theorem la38_189 (v:Value) (xT:TypeId) (w:World):(Instr.typeAssert (.iface 38 v) xT 189 true).run prog w= .ok (.tuple #[.nilIface, .bool false]) w:=run_typeAssert_lacksB underlying189 (by kernel_rfl) (by kernel_rfl) v xT w
theorem la38_190 (v:Value) (xT:TypeId) (w:World):(Instr.typeAssert (.iface 38 v) xT 190 true).run prog w= .ok (.tuple #[.nilIface, .bool false]) w:=run_typeAssert_lacksB underlying190 (by kernel_rfl) (by kernel_rfl) v xT w
theorem la38_196 (v:Value) (xT:TypeId) (w:World):(Instr.typeAssert (.iface 38 v) xT 196 true).run prog w= .ok (.tuple #[.nilIface, .bool false]) w:=run_typeAssert_lacksB underlying196 (by kernel_rfl) (by kernel_rfl) v xT w
theorem me108_Unwrap (v:Value) (w:World):(method (mdepth prog) 108 v "Unwrap").run prog w= .ok (168,v) w:=by kernel_rfl
theorem mk108 (p:Addr) (w:World):(Extern.ReflectliteValue.mk 108 p Extern.ReflectliteValue.flagAddr).run prog w= .ok (.agg #[(.pointer (some ⟨1,108,none⟩)), .pointer (some p), .int .u64 409]) w:=by kernel_rfl
theorem mk38 (p:Addr) (w:World):(Extern.ReflectliteValue.mk 38 p Extern.ReflectliteValue.flagAddr).run prog w= .ok (.agg #[(.pointer (some ⟨1,38,none⟩)), .pointer (some p), .int .u64 386]) w:=by kernel_rfl
theorem mm_AssignableTo (h:Value) (w:World):(method (mdepth prog) 184 (.agg #[h]) "AssignableTo").run prog w= .ok (173, .agg #[h]) w:=by kernel_rfl
theorem mm_Comparable (h:Value) (w:World):(method (mdepth prog) 184 (.agg #[h]) "Comparable").run prog w= .ok (174, .agg #[h]) w:=by kernel_rfl
theorem mm_Elem (h:Value) (w:World):(method (mdepth prog) 184 (.agg #[h]) "Elem").run prog w= .ok (175, .agg #[h]) w:=by kernel_rfl
theorem mm_Implements (h:Value) (w:World):(method (mdepth prog) 184 (.agg #[h]) "Implements").run prog w= .ok (176, .agg #[h]) w:=by kernel_rfl
theorem mm_Kind (h:Value) (w:World):(method (mdepth prog) 184 (.agg #[h]) "Kind").run prog w= .ok (163,h) w:=by kernel_rfl
theorem mr_AssignableTo_0_108 (w:World):((Extern.ReflectliteType.relation "AssignableTo" Extern.ReflectliteType.assignableTo) #[.agg #[(.pointer (some ⟨1,0,none⟩))],(.iface 184 (.agg #[.pointer (some ⟨1,108,none⟩)]))]).run prog w= .ok (.bool false) w:=by kernel_rfl
theorem mr_AssignableTo_0_38 (w:World):((Extern.ReflectliteType.relation "AssignableTo" Extern.ReflectliteType.assignableTo) #[.agg #[(.pointer (some ⟨1,0,none⟩))],(.iface 184 (.agg #[.pointer (some ⟨1,38,none⟩)]))]).run prog w= .ok (.bool false) w:=by kernel_rfl
theorem mr_AssignableTo_108_108 (w:World):((Extern.ReflectliteType.relation "AssignableTo" Extern.ReflectliteType.assignableTo) #[.agg #[(.pointer (some ⟨1,108,none⟩))],(.iface 184 (.agg #[.pointer (some ⟨1,108,none⟩)]))]).run prog w= .ok (.bool true) w:=by kernel_rfl
theorem mr_AssignableTo_108_38 (w:World):((Extern.ReflectliteType.relation "AssignableTo" Extern.ReflectliteType.assignableTo) #[.agg #[(.pointer (some ⟨1,108,none⟩))],(.iface 184 (.agg #[.pointer (some ⟨1,38,none⟩)]))]).run prog w= .ok (.bool false) w:=by kernel_rfl
theorem mr_AssignableTo_38_108 (w:World):((Extern.ReflectliteType.relation "AssignableTo" Extern.ReflectliteType.assignableTo) #[.agg #[(.pointer (some ⟨1,38,none⟩))],(.iface 184 (.agg #[.pointer (some ⟨1,108,none⟩)]))]).run prog w= .ok (.bool false) w:=by kernel_rfl
theorem mr_AssignableTo_38_38 (w:World):((Extern.ReflectliteType.relation "AssignableTo" Extern.ReflectliteType.assignableTo) #[.agg #[(.pointer (some ⟨1,38,none⟩))],(.iface 184 (.agg #[.pointer (some ⟨1,38,none⟩)]))]).run prog w= .ok (.bool true) w:=by kernel_rfl
theorem mr_Comparable_38 (w:World):((Extern.ReflectliteType.method fun t=>do Extern.Rtype.noPackHeld "Comparable" t;pure (.bool (←typeInfo t).comparable)) #[.agg #[(.pointer (some ⟨1,38,none⟩))]]).run prog w= .ok (.bool true) w:=by kernel_rfl
theorem mr_Elem_118 (w:World):((Extern.ReflectliteType.method Extern.ReflectliteType.elem) #[.agg #[(.pointer (some ⟨1,118,none⟩))]]).run prog w= .ok (.iface 184 (.agg #[.pointer (some ⟨1,108,none⟩)])) w:=by kernel_rfl
theorem mr_Elem_119 (w:World):((Extern.ReflectliteType.method Extern.ReflectliteType.elem) #[.agg #[(.pointer (some ⟨1,119,none⟩))]]).run prog w= .ok (.iface 184 (.agg #[.pointer (some ⟨1,38,none⟩)])) w:=by kernel_rfl
theorem mr_Implements_108_31 (w:World):((Extern.ReflectliteType.relation "Implements" Extern.ReflectliteType.implements_) #[.agg #[(.pointer (some ⟨1,108,none⟩))],(.iface 184 (.agg #[.pointer (some ⟨1,31,none⟩)]))]).run prog w= .ok (.bool true) w:=by kernel_rfl
theorem mr_Implements_38_31 (w:World):((Extern.ReflectliteType.relation "Implements" Extern.ReflectliteType.implements_) #[.agg #[(.pointer (some ⟨1,38,none⟩))],(.iface 184 (.agg #[.pointer (some ⟨1,31,none⟩)]))]).run prog w= .ok (.bool true) w:=by kernel_rfl
theorem mr_Kind_108 (w:World):((Extern.ReflectliteType.abiMethod fun t=>do pure (.int .u8 (←Extern.Rtype.kind t))) #[(.pointer (some ⟨1,108,none⟩))]).run prog w= .ok (.int .u8 (25:Int)) w:=by kernel_rfl
theorem mr_Kind_118 (w:World):((Extern.ReflectliteType.abiMethod fun t=>do pure (.int .u8 (←Extern.Rtype.kind t))) #[(.pointer (some ⟨1,118,none⟩))]).run prog w= .ok (.int .u8 (22:Int)) w:=by kernel_rfl
theorem mr_Kind_119 (w:World):((Extern.ReflectliteType.abiMethod fun t=>do pure (.int .u8 (←Extern.Rtype.kind t))) #[(.pointer (some ⟨1,119,none⟩))]).run prog w= .ok (.int .u8 (22:Int)) w:=by kernel_rfl
theorem mr_Kind_38 (w:World):((Extern.ReflectliteType.abiMethod fun t=>do pure (.int .u8 (←Extern.Rtype.kind t))) #[(.pointer (some ⟨1,38,none⟩))]).run prog w= .ok (.int .u8 (2:Int)) w:=by kernel_rfl
theorem pl105:plainT prog 105=true:=by kernel_rfl
theorem pl118:plainT prog 118=true:=by kernel_rfl
theorem pl119:plainT prog 119=true:=by kernel_rfl
theorem pl138:plainT prog 138=true:=by kernel_rfl
theorem pl22:plainT prog 22=true:=by kernel_rfl
theorem pl23:plainT prog 23=true:=by kernel_rfl
theorem pl3:plainT prog 3=true:=by kernel_rfl
theorem pl31:plainT prog 31=true:=by kernel_rfl
theorem pl38:plainT prog 38=true:=by kernel_rfl
theorem pl4:plainT prog 4=true:=by kernel_rfl
theorem pl5:plainT prog 5=true:=by kernel_rfl
theorem pl53:plainT prog 53=true:=by kernel_rfl
theorem pl56:plainT prog 56=true:=by kernel_rfl
theorem pl69:plainT prog 69=true:=by kernel_rfl
theorem pl9:plainT prog 9=true:=by kernel_rfl
theorem pp108_153 (a:Addr) (w:World):(Extern.ReflectliteValue.parts (.agg #[(.pointer (some ⟨1,108,none⟩)), .pointer (some a), .int .u64 153])).run prog w= .ok (some (108,a,153)) w:=by kernel_rfl
theorem pp108_409 (a:Addr) (w:World):(Extern.ReflectliteValue.parts (.agg #[(.pointer (some ⟨1,108,none⟩)), .pointer (some a), .int .u64 409])).run prog w= .ok (some (108,a,409)) w:=by kernel_rfl
theorem pp118_150 (a:Addr) (w:World):(Extern.ReflectliteValue.parts (.agg #[(.pointer (some ⟨1,118,none⟩)), .pointer (some a), .int .u64 150])).run prog w= .ok (some (118,a,150)) w:=by kernel_rfl
theorem pp119_150 (a:Addr) (w:World):(Extern.ReflectliteValue.parts (.agg #[(.pointer (some ⟨1,119,none⟩)), .pointer (some a), .int .u64 150])).run prog w= .ok (some (119,a,150)) w:=by kernel_rfl
theorem pp38_130 (a:Addr) (w:World):(Extern.ReflectliteValue.parts (.agg #[(.pointer (some ⟨1,38,none⟩)), .pointer (some a), .int .u64 130])).run prog w= .ok (some (38,a,130)) w:=by kernel_rfl
theorem pp38_386 (a:Addr) (w:World):(Extern.ReflectliteValue.parts (.agg #[(.pointer (some ⟨1,38,none⟩)), .pointer (some a), .int .u64 386])).run prog w= .ok (some (38,a,386)) w:=by kernel_rfl
theorem sz105:(prog.info? 105).map (·.size)=some 1:=by kernel_rfl
theorem sz108:(prog.info? 108).map (·.size)=some 3:=by kernel_rfl
theorem sz130:(prog.info? 130).map (·.size)=some 4:=by kernel_rfl
theorem sz153:(prog.info? 153).map (·.size)=some 3:=by kernel_rfl
theorem sz164:(prog.info? 164).map (·.size)=some 9:=by kernel_rfl
theorem sz166:(prog.info? 166).map (·.size)=some 4:=by kernel_rfl
theorem sz22:(prog.info? 22).map (·.size)=some 1:=by kernel_rfl
theorem sz23:(prog.info? 23).map (·.size)=some 1:=by kernel_rfl
theorem sz25:(prog.info? 25).map (·.size)=some 15:=by kernel_rfl
theorem sz29:(prog.info? 29).map (·.size)=some 2:=by kernel_rfl
theorem sz3:(prog.info? 3).map (·.size)=some 1:=by kernel_rfl
theorem sz31:(prog.info? 31).map (·.size)=some 1:=by kernel_rfl
theorem sz38:(prog.info? 38).map (·.size)=some 1:=by kernel_rfl
theorem sz4:(prog.info? 4).map (·.size)=some 1:=by kernel_rfl
theorem sz40:(prog.info? 40).map (·.size)=some 3:=by kernel_rfl
theorem sz42:(prog.info? 42).map (·.size)=some 4:=by kernel_rfl
theorem sz5:(prog.info? 5).map (·.size)=some 1:=by kernel_rfl
theorem sz53:(prog.info? 53).map (·.size)=some 1:=by kernel_rfl
theorem sz55:(prog.info? 55).map (·.size)=some 3:=by kernel_rfl
theorem sz56:(prog.info? 56).map (·.size)=some 1:=by kernel_rfl
theorem sz58:(prog.info? 58).map (·.size)=some 18:=by kernel_rfl
theorem sz69:(prog.info? 69).map (·.size)=some 1:=by kernel_rfl
theorem sz85:(prog.info? 85).map (·.size)=some 11:=by kernel_rfl
theorem sz9:(prog.info? 9).map (·.size)=some 1:=by kernel_rfl
theorem sz96:(prog.info? 96).map (·.size)=some 4:=by kernel_rfl
theorem ty0 (v:Value) (w:World):(Extern.ReflectliteType.typeOf #[.iface 0 v]).run prog w= .ok (.iface 184 (.agg #[(.pointer (some ⟨1,0,none⟩))])) w:=by kernel_rfl
theorem ty108 (v:Value) (w:World):(Extern.ReflectliteType.typeOf #[.iface 108 v]).run prog w= .ok (.iface 184 (.agg #[(.pointer (some ⟨1,108,none⟩))])) w:=by kernel_rfl
theorem ty38 (v:Value) (w:World):(Extern.ReflectliteType.typeOf #[.iface 38 v]).run prog w= .ok (.iface 184 (.agg #[(.pointer (some ⟨1,38,none⟩))])) w:=by kernel_rfl
theorem tyNil (w:World):(Extern.ReflectliteType.typeOf #[.nilIface]).run prog w= .ok .nilIface w:=by kernel_rfl
theorem us105:(prog.underlying 105).isSome=true:=by kernel_rfl
theorem us3:(prog.underlying 3).isSome=true:=by kernel_rfl
theorem us5:(prog.underlying 5).isSome=true:=by kernel_rfl
theorem vo108 (o:ByteArray) (n:Int) (e:Value) (w:World):(Extern.ReflectliteValue.unpack (.iface 108 (.agg #[.string o, .int .i64 n,e]))).run prog w= .ok (.agg #[(.pointer (some ⟨1,108,none⟩)), .pointer (some ⟨w.heap.size,0,none⟩), .int .u64 153]) (w.alloc (.cells #[.string o, .int .i64 n,e] 108)):=by kernel_rfl
theorem vo118 (p:Addr) (w:World):(Extern.ReflectliteValue.unpack (.iface 118 (.pointer (some p)))).run prog w= .ok (.agg #[(.pointer (some ⟨1,118,none⟩)), .pointer (some ⟨w.heap.size,0,none⟩), .int .u64 150]) (w.alloc (.cells #[.pointer (some p)] 118)):=by kernel_rfl
theorem vo119 (p:Addr) (w:World):(Extern.ReflectliteValue.unpack (.iface 119 (.pointer (some p)))).run prog w= .ok (.agg #[(.pointer (some ⟨1,119,none⟩)), .pointer (some ⟨w.heap.size,0,none⟩), .int .u64 150]) (w.alloc (.cells #[.pointer (some p)] 119)):=by kernel_rfl
theorem vo38 (n:Int) (w:World):(Extern.ReflectliteValue.unpack (.iface 38 (.int .i64 n))).run prog w= .ok (.agg #[(.pointer (some ⟨1,38,none⟩)), .pointer (some ⟨w.heap.size,0,none⟩), .int .u64 130]) (w.alloc (.cells #[.int .i64 n] 38)):=by kernel_rfl
theorem vt118_150 (a:Addr) (w:World):((Extern.ReflectliteValue.methodAny (Extern.ReflectliteValue.valueError "reflectlite.Value.Type" 0) (fun t _ _ _=>Extern.ReflectliteType.toType t)) #[.agg #[(.pointer (some ⟨1,118,none⟩)), .pointer (some a), .int .u64 150]]).run prog w= .ok (.iface 184 (.agg #[(.pointer (some ⟨1,118,none⟩))])) w:=by kernel_rfl
theorem vt119_150 (a:Addr) (w:World):((Extern.ReflectliteValue.methodAny (Extern.ReflectliteValue.valueError "reflectlite.Value.Type" 0) (fun t _ _ _=>Extern.ReflectliteType.toType t)) #[.agg #[(.pointer (some ⟨1,119,none⟩)), .pointer (some a), .int .u64 150]]).run prog w= .ok (.iface 184 (.agg #[(.pointer (some ⟨1,119,none⟩))])) w:=by kernel_rfl
theorem xt108:ExtOk prog 108 (fun args=>Extern.ReflectliteValue.unpack (args.getD 0 (.tuple #[]))):=fun args w=>run_callFunc_extern (e:=(fun args=>Extern.ReflectliteValue.unpack (args.getD 0 (.tuple #[])))) func108 (by kernel_rfl) (by kernel_rfl) (by kernel_rfl) (by kernel_rfl) args w
theorem xt109:ExtOk prog 109 (Extern.ReflectliteValue.methodAny (Extern.ReflectliteValue.valueError "reflectlite.Value.Type" 0) (fun t _ _ _=>Extern.ReflectliteType.toType t)):=fun args w=>run_callFunc_extern (e:=(Extern.ReflectliteValue.methodAny (Extern.ReflectliteValue.valueError "reflectlite.Value.Type" 0) (fun t _ _ _=>Extern.ReflectliteType.toType t))) func109 (by kernel_rfl) (by kernel_rfl) (by kernel_rfl) (by kernel_rfl) args w
theorem xt110:ExtOk prog 110 (Extern.ReflectliteValue.method (Extern.ReflectliteValue.valueError "reflectlite.Value.IsNil" 0) Extern.ReflectliteValue.isNil):=fun args w=>run_callFunc_extern (e:=(Extern.ReflectliteValue.method (Extern.ReflectliteValue.valueError "reflectlite.Value.IsNil" 0) Extern.ReflectliteValue.isNil)) func110 (by kernel_rfl) (by kernel_rfl) (by kernel_rfl) (by kernel_rfl) args w
theorem xt137:ExtOk prog 137 (Extern.ReflectliteValue.method (Extern.ReflectliteValue.valueError "reflectlite.Value.Elem" 0) Extern.ReflectliteValue.elem):=fun args w=>run_callFunc_extern (e:=(Extern.ReflectliteValue.method (Extern.ReflectliteValue.valueError "reflectlite.Value.Elem" 0) Extern.ReflectliteValue.elem)) func137 (by kernel_rfl) (by kernel_rfl) (by kernel_rfl) (by kernel_rfl) args w
theorem xt138:ExtOk prog 138 Extern.ReflectliteValue.set:=fun args w=>run_callFunc_extern (e:=Extern.ReflectliteValue.set) func138 (by kernel_rfl) (by kernel_rfl) (by kernel_rfl) (by kernel_rfl) args w
theorem xt163:ExtOk prog 163 (Extern.ReflectliteType.abiMethod fun t=>do pure (.int .u8 (←Extern.Rtype.kind t))):=fun args w=>run_callFunc_extern (e:=(Extern.ReflectliteType.abiMethod fun t=>do pure (.int .u8 (←Extern.Rtype.kind t)))) func163 (by kernel_rfl) (by kernel_rfl) (by kernel_rfl) (by kernel_rfl) args w
theorem xt173:ExtOk prog 173 (Extern.ReflectliteType.relation "AssignableTo" Extern.ReflectliteType.assignableTo):=fun args w=>run_callFunc_extern (e:=(Extern.ReflectliteType.relation "AssignableTo" Extern.ReflectliteType.assignableTo)) func173 (by kernel_rfl) (by kernel_rfl) (by kernel_rfl) (by kernel_rfl) args w
theorem xt174:ExtOk prog 174 (Extern.ReflectliteType.method fun t=>do Extern.Rtype.noPackHeld "Comparable" t;pure (.bool (←typeInfo t).comparable)):=fun args w=>run_callFunc_extern (e:=(Extern.ReflectliteType.method fun t=>do Extern.Rtype.noPackHeld "Comparable" t;pure (.bool (←typeInfo t).comparable))) func174 (by kernel_rfl) (by kernel_rfl) (by kernel_rfl) (by kernel_rfl) args w
theorem xt175:ExtOk prog 175 (Extern.ReflectliteType.method Extern.ReflectliteType.elem):=fun args w=>run_callFunc_extern (e:=(Extern.ReflectliteType.method Extern.ReflectliteType.elem)) func175 (by kernel_rfl) (by kernel_rfl) (by kernel_rfl) (by kernel_rfl) args w
theorem xt176:ExtOk prog 176 (Extern.ReflectliteType.relation "Implements" Extern.ReflectliteType.implements_):=fun args w=>run_callFunc_extern (e:=(Extern.ReflectliteType.relation "Implements" Extern.ReflectliteType.implements_)) func176 (by kernel_rfl) (by kernel_rfl) (by kernel_rfl) (by kernel_rfl) args w
theorem xt91:ExtOk prog 91 Extern.ReflectliteType.typeOf:=fun args w=>run_callFunc_extern (e:=Extern.ReflectliteType.typeOf) func91 (by kernel_rfl) (by kernel_rfl) (by kernel_rfl) (by kernel_rfl) args w
theorem ze105:(prog.info? 105).map (·.zero)=some (some (.int .u64 (0:Int))):=by kernel_rfl
theorem ze108:(prog.info? 108).map (·.zero)=some (some (.agg #[(.string (⟨#[]⟩:ByteArray)),(.int .i64 (0:Int)),(.nilIface)])):=by kernel_rfl
theorem ze110:(prog.info? 110).map (·.zero)=some (some (.agg #[(.slice none 0 0),(.int .i64 (0:Int)),(.nilIface)])):=by kernel_rfl
theorem ze130:(prog.info? 130).map (·.zero)=some (some (.agg #[(.int .u64 (0:Int)),(.bool false),(.slice none 0 0),(.slice none 0 0)])):=by kernel_rfl
theorem ze134:(prog.info? 134).map (·.zero)=some (some (.agg #[(.int .i64 (0:Int)),(.int .i64 (0:Int)),(.int .i64 (0:Int))])):=by kernel_rfl
theorem ze153:(prog.info? 153).map (·.zero)=some (some (.agg #[(.pointer none),(.pointer none),(.int .u64 (0:Int))])):=by kernel_rfl
theorem ze164:(prog.info? 164).map (·.zero)=some (some (.agg #[(.int .i64 (0:Int)),(.int .i64 (0:Int)),(.int .i64 (0:Int)),(.int .i64 (0:Int)),(.int .i64 (0:Int)),(.int .i64 (0:Int)),(.int .i64 (0:Int)),(.int .i64 (0:Int)),(.int .i64 (0:Int))])):=by kernel_rfl
theorem ze166:(prog.info? 166).map (·.zero)=some (some (.agg #[(.string (⟨#[]⟩:ByteArray)),(.string (⟨#[]⟩:ByteArray)),(.string (⟨#[]⟩:ByteArray)),(.string (⟨#[]⟩:ByteArray))])):=by kernel_rfl
theorem ze23:(prog.info? 23).map (·.zero)=some (some (.slice none 0 0)):=by kernel_rfl
theorem ze25:(prog.info? 25).map (·.zero)=some (some (.agg #[(.int .i64 (0:Int)),(.int .i64 (0:Int)),(.int .i64 (0:Int)),(.int .i64 (0:Int)),(.bool false),(.bool false),(.int .i64 (0:Int)),(.int .i64 (0:Int)),(.int .i64 (0:Int)),(.int .i64 (0:Int)),(.int .i64 (0:Int)),(.slice none 0 0),(.int .i64 (0:Int)),(.int .i64 (0:Int)),(.slice none 0 0)])):=by kernel_rfl
theorem ze29:(prog.info? 29).map (·.zero)=some (some (.agg #[(.int .i64 (0:Int)),(.slice none 0 0)])):=by kernel_rfl
theorem ze3:(prog.info? 3).map (·.zero)=some (some (.int .i64 (0:Int))):=by kernel_rfl
theorem ze38:(prog.info? 38).map (·.zero)=some (some (.int .i64 (0:Int))):=by kernel_rfl
theorem ze40:(prog.info? 40).map (·.zero)=some (some (.agg #[(.string (⟨#[]⟩:ByteArray)),(.int .i64 (0:Int)),(.int .i64 (0:Int))])):=by kernel_rfl
theorem ze42:(prog.info? 42).map (·.zero)=some (some (.agg #[(.string (⟨#[]⟩:ByteArray)),(.int .i64 (0:Int)),(.int .i64 (0:Int)),(.int .i64 (0:Int))])):=by kernel_rfl
theorem ze55:(prog.info? 55).map (·.zero)=some (some (.agg #[(.int .i64 (0:Int)),(.int .i64 (0:Int)),(.slice none 0 0)])):=by kernel_rfl
theorem ze58:(prog.info? 58).map (·.zero)=some (some (.agg #[(.int .i64 (0:Int)),(.int .i64 (0:Int)),(.int .i64 (0:Int)),(.int .i64 (0:Int)),(.int .i64 (0:Int)),(.int .i64 (0:Int)),(.int .i64 (0:Int)),(.int .i64 (0:Int)),(.int .i64 (0:Int)),(.bool false),(.string (⟨#[]⟩:ByteArray)),(.string (⟨#[]⟩:ByteArray)),(.string (⟨#[]⟩:ByteArray)),(.string (⟨#[]⟩:ByteArray)),(.slice none 0 0),(.slice none 0 0),(.slice none 0 0),(.slice none 0 0)])):=by kernel_rfl
theorem ze69:(prog.info? 69).map (·.zero)=some (some (.pointer none)):=by kernel_rfl
theorem ze85:(prog.info? 85).map (·.zero)=some (some (.agg #[(.int .i64 (0:Int)),(.int .i64 (0:Int)),(.int .i64 (0:Int)),(.int .i64 (0:Int)),(.int .i64 (0:Int)),(.int .i64 (0:Int)),(.int .i64 (0:Int)),(.int .i64 (0:Int)),(.int .i64 (0:Int)),(.int .i64 (0:Int)),(.int .i64 (0:Int))])):=by kernel_rfl
theorem ze96:(prog.info? 96).map (·.zero)=some (some (.agg #[(.int .i64 (0:Int)),(.int .i64 (0:Int)),(.string (⟨#[]⟩:ByteArray)),(.int .i64 (0:Int))])):=by kernel_rfl
theorem ze98:(prog.info? 98).map (·.zero)=some (some (.agg #[(.slice none 0 0),(.int .i64 (0:Int)),(.int .i64 (0:Int)),(.string (⟨#[]⟩:ByteArray)),(.int .i64 (0:Int))])):=by kernel_rfl
theorem zo186:(prog.info? 186).map (·.zero)=some (some .nilIface):=by kernel_rfl
theorem zo189:(prog.info? 189).map (·.zero)=some (some .nilIface):=by kernel_rfl
theorem zo190:(prog.info? 190).map (·.zero)=some (some .nilIface):=by kernel_rfl
theorem mixed:prog.follows .mixedOrders=true:=by kernel_rfl
abbrev lit6_:T_ref05_Wrong:=⟨(⟨#[]⟩:ByteArray),(0:Int),(0:Int)⟩
abbrev lit5_:T_ref06_Wrong:=⟨lit6_,(-1:Int)⟩
abbrev lit4_:T_api_Rpc:=⟨(0:Int),(0:Int),(0:Int),(0:Int),false,false,(0:Int),(0:Int),(0:Int),(0:Int),(0:Int),[],(0:Int),(0:Int),[]⟩
abbrev lit3_:T_api_Record:=⟨(1:Int),(0:Int),(0:Int),(0:Int),(0:Int),(0:Int),(0:Int),(0:Int),(0:Int),false,(⟨#[]⟩:ByteArray),(⟨#[]⟩:ByteArray),(⟨#[]⟩:ByteArray),(⟨#[]⟩:ByteArray),[],[],[],[]⟩
abbrev lit2_:T_api_Batch:=⟨(3:Int),(6:Int),[lit3_]⟩
abbrev lit1_:T_api_Rpc:=⟨(4:Int),(1:Int),(2:Int),(3:Int),false,false,(1:Int),(5:Int),(2:Int),(4:Int),(0:Int),[lit2_],(0:Int),(0:Int),[]⟩
end Go.Proofs.YtkflneabcannnaaGreatDoor.G
