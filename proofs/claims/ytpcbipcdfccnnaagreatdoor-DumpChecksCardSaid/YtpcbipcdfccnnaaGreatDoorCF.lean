/- Closed facts on the program's types. Printed by a program of the session (gen). -/
import Derived.Test.YtpcbipcdfccnnaaGreatDoorCT
import Derived.Test.YtpcbipcdfccnnaaGreatDoorProg
set_option linter.unusedVariables false
set_option linter.unusedSimpArgs false
set_option maxHeartbeats 8000000
set_option maxRecDepth 100000
namespace Go.Proofs.YtpcbipcdfccnnaaGreatDoor.G
open Go Go.KK
open PO EO IntKind Sum Tryz
def Env (M:IM):Prop:=M.cell ⟨0,0,none⟩=some (.iface 193 (.agg #[(.pointer (some ⟨1,32,none⟩))]))
theorem Env.mono {M M':IM}(h:Env M) (hle:M.le M'):Env M':=hle.cell h
theorem ag111:aggB prog 111=true:=by kernel_rfl
theorem ag114:aggB prog 114=true:=by kernel_rfl
theorem ag144:aggB prog 144=true:=by kernel_rfl
theorem ag154:aggB prog 154=true:=by kernel_rfl
theorem ag27:aggB prog 27=true:=by kernel_rfl
theorem ag36:aggB prog 36=true:=by kernel_rfl
theorem ag55:aggB prog 55=true:=by kernel_rfl
theorem ag58:aggB prog 58=true:=by kernel_rfl
theorem ag67:aggB prog 67=true:=by kernel_rfl
theorem ag68:aggB prog 68=true:=by kernel_rfl
theorem ag71:aggB prog 71=true:=by kernel_rfl
theorem ag76:aggB prog 76=true:=by kernel_rfl
theorem cc114:prog.concrete 114=true:=by kernel_rfl
theorem cc116:prog.concrete 116=true:=by kernel_rfl
theorem cc117:prog.concrete 117=true:=by kernel_rfl
theorem cc34:prog.concrete 34=true:=by kernel_rfl
theorem cm34:(prog.info? 34).map (·.comparable)=some true:=by kernel_rfl
theorem co10:callOk prog 10=true:=by kernel_rfl
theorem co100:callOk prog 100=true:=by kernel_rfl
theorem co104:callOk prog 104=true:=by kernel_rfl
theorem co105:callOk prog 105=true:=by kernel_rfl
theorem co106:callOk prog 106=true:=by kernel_rfl
theorem co107:callOk prog 107=true:=by kernel_rfl
theorem co108:callOk prog 108=true:=by kernel_rfl
theorem co109:callOk prog 109=true:=by kernel_rfl
theorem co11:callOk prog 11=true:=by kernel_rfl
theorem co110:callOk prog 110=true:=by kernel_rfl
theorem co111:callOk prog 111=true:=by kernel_rfl
theorem co112:callOk prog 112=true:=by kernel_rfl
theorem co113:callOk prog 113=true:=by kernel_rfl
theorem co114:callOk prog 114=true:=by kernel_rfl
theorem co115:callOk prog 115=true:=by kernel_rfl
theorem co116:callOk prog 116=true:=by kernel_rfl
theorem co119:callOk prog 119=true:=by kernel_rfl
theorem co12:callOk prog 12=true:=by kernel_rfl
theorem co126:callOk prog 126=true:=by kernel_rfl
theorem co127:callOk prog 127=true:=by kernel_rfl
theorem co128:callOk prog 128=true:=by kernel_rfl
theorem co129:callOk prog 129=true:=by kernel_rfl
theorem co130:callOk prog 130=true:=by kernel_rfl
theorem co131:callOk prog 131=true:=by kernel_rfl
theorem co132:callOk prog 132=true:=by kernel_rfl
theorem co133:callOk prog 133=true:=by kernel_rfl
theorem co134:callOk prog 134=true:=by kernel_rfl
theorem co135:callOk prog 135=true:=by kernel_rfl
theorem co136:callOk prog 136=true:=by kernel_rfl
theorem co139:callOk prog 139=true:=by kernel_rfl
theorem co140:callOk prog 140=true:=by kernel_rfl
theorem co141:callOk prog 141=true:=by kernel_rfl
theorem co142:callOk prog 142=true:=by kernel_rfl
theorem co143:callOk prog 143=true:=by kernel_rfl
theorem co144:callOk prog 144=true:=by kernel_rfl
theorem co145:callOk prog 145=true:=by kernel_rfl
theorem co146:callOk prog 146=true:=by kernel_rfl
theorem co147:callOk prog 147=true:=by kernel_rfl
theorem co148:callOk prog 148=true:=by kernel_rfl
theorem co149:callOk prog 149=true:=by kernel_rfl
theorem co150:callOk prog 150=true:=by kernel_rfl
theorem co151:callOk prog 151=true:=by kernel_rfl
theorem co152:callOk prog 152=true:=by kernel_rfl
theorem co153:callOk prog 153=true:=by kernel_rfl
theorem co154:callOk prog 154=true:=by kernel_rfl
theorem co17:callOk prog 17=true:=by kernel_rfl
theorem co175:callOk prog 175=true:=by kernel_rfl
theorem co18:callOk prog 18=true:=by kernel_rfl
theorem co19:callOk prog 19=true:=by kernel_rfl
theorem co20:callOk prog 20=true:=by kernel_rfl
theorem co21:callOk prog 21=true:=by kernel_rfl
theorem co22:callOk prog 22=true:=by kernel_rfl
theorem co23:callOk prog 23=true:=by kernel_rfl
theorem co24:callOk prog 24=true:=by kernel_rfl
theorem co25:callOk prog 25=true:=by kernel_rfl
theorem co26:callOk prog 26=true:=by kernel_rfl
theorem co27:callOk prog 27=true:=by kernel_rfl
theorem co28:callOk prog 28=true:=by kernel_rfl
theorem co29:callOk prog 29=true:=by kernel_rfl
theorem co30:callOk prog 30=true:=by kernel_rfl
theorem co31:callOk prog 31=true:=by kernel_rfl
theorem co32:callOk prog 32=true:=by kernel_rfl
theorem co33:callOk prog 33=true:=by kernel_rfl
theorem co34:callOk prog 34=true:=by kernel_rfl
theorem co35:callOk prog 35=true:=by kernel_rfl
theorem co36:callOk prog 36=true:=by kernel_rfl
theorem co37:callOk prog 37=true:=by kernel_rfl
theorem co38:callOk prog 38=true:=by kernel_rfl
theorem co39:callOk prog 39=true:=by kernel_rfl
theorem co40:callOk prog 40=true:=by kernel_rfl
theorem co41:callOk prog 41=true:=by kernel_rfl
theorem co42:callOk prog 42=true:=by kernel_rfl
theorem co43:callOk prog 43=true:=by kernel_rfl
theorem co44:callOk prog 44=true:=by kernel_rfl
theorem co45:callOk prog 45=true:=by kernel_rfl
theorem co46:callOk prog 46=true:=by kernel_rfl
theorem co47:callOk prog 47=true:=by kernel_rfl
theorem co48:callOk prog 48=true:=by kernel_rfl
theorem co49:callOk prog 49=true:=by kernel_rfl
theorem co50:callOk prog 50=true:=by kernel_rfl
theorem co51:callOk prog 51=true:=by kernel_rfl
theorem co52:callOk prog 52=true:=by kernel_rfl
theorem co53:callOk prog 53=true:=by kernel_rfl
theorem co54:callOk prog 54=true:=by kernel_rfl
theorem co55:callOk prog 55=true:=by kernel_rfl
theorem co6:callOk prog 6=true:=by kernel_rfl
theorem co66:callOk prog 66=true:=by kernel_rfl
theorem co67:callOk prog 67=true:=by kernel_rfl
theorem co68:callOk prog 68=true:=by kernel_rfl
theorem co69:callOk prog 69=true:=by kernel_rfl
theorem co7:callOk prog 7=true:=by kernel_rfl
theorem co70:callOk prog 70=true:=by kernel_rfl
theorem co71:callOk prog 71=true:=by kernel_rfl
theorem co72:callOk prog 72=true:=by kernel_rfl
theorem co73:callOk prog 73=true:=by kernel_rfl
theorem co74:callOk prog 74=true:=by kernel_rfl
theorem co75:callOk prog 75=true:=by kernel_rfl
theorem co76:callOk prog 76=true:=by kernel_rfl
theorem co77:callOk prog 77=true:=by kernel_rfl
theorem co78:callOk prog 78=true:=by kernel_rfl
theorem co79:callOk prog 79=true:=by kernel_rfl
theorem co8:callOk prog 8=true:=by kernel_rfl
theorem co80:callOk prog 80=true:=by kernel_rfl
theorem co81:callOk prog 81=true:=by kernel_rfl
theorem co82:callOk prog 82=true:=by kernel_rfl
theorem co83:callOk prog 83=true:=by kernel_rfl
theorem co86:callOk prog 86=true:=by kernel_rfl
theorem co9:callOk prog 9=true:=by kernel_rfl
theorem co91:callOk prog 91=true:=by kernel_rfl
theorem co92:callOk prog 92=true:=by kernel_rfl
theorem co93:callOk prog 93=true:=by kernel_rfl
theorem co94:callOk prog 94=true:=by kernel_rfl
theorem co95:callOk prog 95=true:=by kernel_rfl
theorem co96:callOk prog 96=true:=by kernel_rfl
theorem co97:callOk prog 97=true:=by kernel_rfl
theorem co98:callOk prog 98=true:=by kernel_rfl
theorem da114 (w:World):(Extern.Rtype.directlyAssignable 114 114).run prog w= .ok true w:=by kernel_rfl
theorem da34 (w:World):(Extern.Rtype.directlyAssignable 34 34).run prog w= .ok true w:=by kernel_rfl
theorem el116 (w:World):(Extern.Rtype.elem? 116).run prog w= .ok (some 114) w:=by kernel_rfl
theorem el117 (w:World):(Extern.Rtype.elem? 117).run prog w= .ok (some 34) w:=by kernel_rfl
theorem fo111_0:fldOff prog 111 0=some 0:=by kernel_rfl
theorem fo111_1:fldOff prog 111 1=some 1:=by kernel_rfl
theorem fo111_10:fldOff prog 111 10=some 10:=by kernel_rfl
theorem fo111_11:fldOff prog 111 11=some 11:=by kernel_rfl
theorem fo111_12:fldOff prog 111 12=some 12:=by kernel_rfl
theorem fo111_13:fldOff prog 111 13=some 13:=by kernel_rfl
theorem fo111_14:fldOff prog 111 14=some 14:=by kernel_rfl
theorem fo111_15:fldOff prog 111 15=some 15:=by kernel_rfl
theorem fo111_16:fldOff prog 111 16=some 16:=by kernel_rfl
theorem fo111_17:fldOff prog 111 17=some 17:=by kernel_rfl
theorem fo111_2:fldOff prog 111 2=some 2:=by kernel_rfl
theorem fo111_3:fldOff prog 111 3=some 3:=by kernel_rfl
theorem fo111_4:fldOff prog 111 4=some 4:=by kernel_rfl
theorem fo111_5:fldOff prog 111 5=some 5:=by kernel_rfl
theorem fo111_6:fldOff prog 111 6=some 6:=by kernel_rfl
theorem fo111_7:fldOff prog 111 7=some 7:=by kernel_rfl
theorem fo111_8:fldOff prog 111 8=some 8:=by kernel_rfl
theorem fo111_9:fldOff prog 111 9=some 9:=by kernel_rfl
theorem fo114_0:fldOff prog 114 0=some 0:=by kernel_rfl
theorem fo114_1:fldOff prog 114 1=some 1:=by kernel_rfl
theorem fo114_2:fldOff prog 114 2=some 2:=by kernel_rfl
theorem fo130_0:fldOff prog 130 0=some 0:=by kernel_rfl
theorem fo130_1:fldOff prog 130 1=some 1:=by kernel_rfl
theorem fo130_2:fldOff prog 130 2=some 2:=by kernel_rfl
theorem fo144_2:fldOff prog 144 2=some 2:=by kernel_rfl
theorem fo27_0:fldOff prog 27 0=some 0:=by kernel_rfl
theorem fo27_1:fldOff prog 27 1=some 1:=by kernel_rfl
theorem fo27_2:fldOff prog 27 2=some 2:=by kernel_rfl
theorem fo27_3:fldOff prog 27 3=some 3:=by kernel_rfl
theorem fo27_4:fldOff prog 27 4=some 4:=by kernel_rfl
theorem fo36_0:fldOff prog 36 0=some 0:=by kernel_rfl
theorem fo36_1:fldOff prog 36 1=some 1:=by kernel_rfl
theorem fo36_2:fldOff prog 36 2=some 2:=by kernel_rfl
theorem fo55_0:fldOff prog 55 0=some 0:=by kernel_rfl
theorem fo55_1:fldOff prog 55 1=some 1:=by kernel_rfl
theorem fo55_2:fldOff prog 55 2=some 2:=by kernel_rfl
theorem fo58_0:fldOff prog 58 0=some 0:=by kernel_rfl
theorem fo58_1:fldOff prog 58 1=some 1:=by kernel_rfl
theorem fo58_2:fldOff prog 58 2=some 2:=by kernel_rfl
theorem fo58_3:fldOff prog 58 3=some 3:=by kernel_rfl
theorem fo58_4:fldOff prog 58 4=some 4:=by kernel_rfl
theorem fo58_5:fldOff prog 58 5=some 5:=by kernel_rfl
theorem fo67_0:fldOff prog 67 0=some 0:=by kernel_rfl
theorem fo67_1:fldOff prog 67 1=some 1:=by kernel_rfl
theorem fo67_2:fldOff prog 67 2=some 2:=by kernel_rfl
theorem fo71_0:fldOff prog 71 0=some 0:=by kernel_rfl
theorem fo71_1:fldOff prog 71 1=some 1:=by kernel_rfl
theorem fo71_2:fldOff prog 71 2=some 2:=by kernel_rfl
theorem fo71_3:fldOff prog 71 3=some 3:=by kernel_rfl
theorem fo71_4:fldOff prog 71 4=some 4:=by kernel_rfl
theorem fo76_0:fldOff prog 76 0=some 0:=by kernel_rfl
theorem fo76_1:fldOff prog 76 1=some 1:=by kernel_rfl
theorem fo76_2:fldOff prog 76 2=some 2:=by kernel_rfl
theorem fp111:fldPlace prog 111=some [(0,1),(1,1),(2,1),(3,1),(4,1),(5,1),(6,1),(7,1),(8,1),(9,1),(10,1),(11,1),(12,1),(13,1),(14,1),(15,1),(16,1),(17,1)]:=by kernel_rfl
theorem fp114:fldPlace prog 114=some [(0,1),(1,1),(2,1)]:=by kernel_rfl
theorem fp130:fldPlace prog 130=some [(0,1),(1,1),(2,1)]:=by kernel_rfl
theorem fp144:fldPlace prog 144=some [(0,1),(1,1),(2,1)]:=by kernel_rfl
theorem fp27:fldPlace prog 27=some [(0,1),(1,1),(2,1),(3,1),(4,1)]:=by kernel_rfl
theorem fp36:fldPlace prog 36=some [(0,1),(1,1),(2,1)]:=by kernel_rfl
theorem fp55:fldPlace prog 55=some [(0,1),(1,1),(2,1)]:=by kernel_rfl
theorem fp58:fldPlace prog 58=some [(0,1),(1,1),(2,1),(3,1),(4,1),(5,1)]:=by kernel_rfl
theorem fp67:fldPlace prog 67=some [(0,1),(1,1),(2,1)]:=by kernel_rfl
theorem fp71:fldPlace prog 71=some [(0,1),(1,1),(2,1),(3,1),(4,1)]:=by kernel_rfl
theorem fp76:fldPlace prog 76=some [(0,1),(1,1),(2,1)]:=by kernel_rfl
theorem ha114_198 (v:Value) (xT:TypeId) (w:World):(Instr.typeAssert (.iface 114 v) xT 198 true).run prog w= .ok (.tuple #[.iface 114 v, .bool true]) w:=run_typeAssert_hasB underlying198 (by kernel_rfl) v xT w
theorem in3:(prog.info? 3).map (fun i=>(i.size,i.bytes,i.zero))=some (1,8,some (.int .i64 (0:Int))):=by kernel_rfl
theorem in5:(prog.info? 5).map (fun i=>(i.size,i.bytes,i.zero))=some (1,1,some (.int .u8 (0:Int))):=by kernel_rfl
theorem in55:(prog.info? 55).map (fun i=>(i.size,i.bytes,i.zero))=some (3,48,some (.agg #[(.int .i64 (0:Int)),(.string (⟨#[]⟩:ByteArray)),(.slice none 0 0)])):=by kernel_rfl
theorem in58:(prog.info? 58).map (fun i=>(i.size,i.bytes,i.zero))=some (6,112,some (.agg #[(.slice none 0 0),(.slice none 0 0),(.int .i64 (0:Int)),(.int .i64 (0:Int)),(.slice none 0 0),(.slice none 0 0)])):=by kernel_rfl
theorem in67:(prog.info? 67).map (fun i=>(i.size,i.bytes,i.zero))=some (3,24,some (.agg #[(.int .i64 (0:Int)),(.int .i64 (0:Int)),(.int .i64 (0:Int))])):=by kernel_rfl
theorem in71:(prog.info? 71).map (fun i=>(i.size,i.bytes,i.zero))=some (5,40,some (.agg #[(.int .i64 (0:Int)),(.int .i64 (0:Int)),(.string (⟨#[]⟩:ByteArray)),(.bool false),(.bool false)])):=by kernel_rfl
theorem in76:(prog.info? 76).map (fun i=>(i.size,i.bytes,i.zero))=some (3,40,some (.agg #[(.int .i64 (0:Int)),(.string (⟨#[]⟩:ByteArray)),(.string (⟨#[]⟩:ByteArray))])):=by kernel_rfl
theorem in9:(prog.info? 9).map (fun i=>(i.size,i.bytes,i.zero))=some (1,16,some (.string (⟨#[]⟩:ByteArray))):=by kernel_rfl
theorem iz111:(prog.info? 111).map (fun i=>(i.size,i.zero))=some (18,some (.agg #[(.int .i64 (0:Int)),(.int .i64 (0:Int)),(.int .i64 (0:Int)),(.int .i64 (0:Int)),(.int .i64 (0:Int)),(.int .i64 (0:Int)),(.int .i64 (0:Int)),(.int .i64 (0:Int)),(.int .i64 (0:Int)),(.bool false),(.string (⟨#[]⟩:ByteArray)),(.string (⟨#[]⟩:ByteArray)),(.string (⟨#[]⟩:ByteArray)),(.string (⟨#[]⟩:ByteArray)),(.slice none 0 0),(.slice none 0 0),(.slice none 0 0),(.slice none 0 0)])):=by kernel_rfl
theorem iz3:(prog.info? 3).map (fun i=>(i.size,i.zero))=some (1,some (.int .i64 (0:Int))):=by kernel_rfl
theorem iz5:(prog.info? 5).map (fun i=>(i.size,i.zero))=some (1,some (.int .u8 (0:Int))):=by kernel_rfl
theorem iz55:(prog.info? 55).map (fun i=>(i.size,i.zero))=some (3,some (.agg #[(.int .i64 (0:Int)),(.string (⟨#[]⟩:ByteArray)),(.slice none 0 0)])):=by kernel_rfl
theorem iz56:(prog.info? 56).map (fun i=>(i.size,i.zero))=some (1,some (.slice none 0 0)):=by kernel_rfl
theorem iz58:(prog.info? 58).map (fun i=>(i.size,i.zero))=some (6,some (.agg #[(.slice none 0 0),(.slice none 0 0),(.int .i64 (0:Int)),(.int .i64 (0:Int)),(.slice none 0 0),(.slice none 0 0)])):=by kernel_rfl
theorem iz67:(prog.info? 67).map (fun i=>(i.size,i.zero))=some (3,some (.agg #[(.int .i64 (0:Int)),(.int .i64 (0:Int)),(.int .i64 (0:Int))])):=by kernel_rfl
theorem iz71:(prog.info? 71).map (fun i=>(i.size,i.zero))=some (5,some (.agg #[(.int .i64 (0:Int)),(.int .i64 (0:Int)),(.string (⟨#[]⟩:ByteArray)),(.bool false),(.bool false)])):=by kernel_rfl
theorem iz76:(prog.info? 76).map (fun i=>(i.size,i.zero))=some (3,some (.agg #[(.int .i64 (0:Int)),(.string (⟨#[]⟩:ByteArray)),(.string (⟨#[]⟩:ByteArray))])):=by kernel_rfl
theorem iz9:(prog.info? 9).map (fun i=>(i.size,i.zero))=some (1,some (.string (⟨#[]⟩:ByteArray))):=by kernel_rfl
theorem la0_195 (v:Value) (xT:TypeId) (w:World):(Instr.typeAssert (.iface 0 v) xT 195 true).run prog w= .ok (.tuple #[.nilIface, .bool false]) w:=run_typeAssert_lacksB underlying195 (by kernel_rfl) (by kernel_rfl) v xT w
theorem la0_198 (v:Value) (xT:TypeId) (w:World):(Instr.typeAssert (.iface 0 v) xT 198 true).run prog w= .ok (.tuple #[.nilIface, .bool false]) w:=run_typeAssert_lacksB underlying198 (by kernel_rfl) (by kernel_rfl) v xT w
theorem la0_199 (v:Value) (xT:TypeId) (w:World):(Instr.typeAssert (.iface 0 v) xT 199 true).run prog w= .ok (.tuple #[.nilIface, .bool false]) w:=run_typeAssert_lacksB underlying199 (by kernel_rfl) (by kernel_rfl) v xT w
theorem la0_204 (v:Value) (xT:TypeId) (w:World):(Instr.typeAssert (.iface 0 v) xT 204 true).run prog w= .ok (.tuple #[.nilIface, .bool false]) w:=run_typeAssert_lacksB underlying204 (by kernel_rfl) (by kernel_rfl) v xT w
theorem la114_195 (v:Value) (xT:TypeId) (w:World):(Instr.typeAssert (.iface 114 v) xT 195 true).run prog w= .ok (.tuple #[.nilIface, .bool false]) w:=run_typeAssert_lacksB underlying195 (by kernel_rfl) (by kernel_rfl) v xT w
theorem la114_204 (v:Value) (xT:TypeId) (w:World):(Instr.typeAssert (.iface 114 v) xT 204 true).run prog w= .ok (.tuple #[.nilIface, .bool false]) w:=run_typeAssert_lacksB underlying204 (by kernel_rfl) (by kernel_rfl) v xT w
theorem la34_195 (v:Value) (xT:TypeId) (w:World):(Instr.typeAssert (.iface 34 v) xT 195 true).run prog w= .ok (.tuple #[.nilIface, .bool false]) w:=run_typeAssert_lacksB underlying195 (by kernel_rfl) (by kernel_rfl) v xT w
theorem la34_198 (v:Value) (xT:TypeId) (w:World):(Instr.typeAssert (.iface 34 v) xT 198 true).run prog w= .ok (.tuple #[.nilIface, .bool false]) w:=run_typeAssert_lacksB underlying198 (by kernel_rfl) (by kernel_rfl) v xT w
theorem la34_199 (v:Value) (xT:TypeId) (w:World):(Instr.typeAssert (.iface 34 v) xT 199 true).run prog w= .ok (.tuple #[.nilIface, .bool false]) w:=run_typeAssert_lacksB underlying199 (by kernel_rfl) (by kernel_rfl) v xT w
theorem la34_204 (v:Value) (xT:TypeId) (w:World):(Instr.typeAssert (.iface 34 v) xT 204 true).run prog w= .ok (.tuple #[.nilIface, .bool false]) w:=run_typeAssert_lacksB underlying204 (by kernel_rfl) (by kernel_rfl) v xT w
theorem me114_Unwrap (v:Value) (w:World):(method (mdepth prog) 114 v "Unwrap").run prog w= .ok (175,v) w:=by kernel_rfl
theorem mk114 (p:Addr) (w:World):(Extern.ReflectliteValue.mk 114 p Extern.ReflectliteValue.flagAddr).run prog w= .ok (.agg #[(.pointer (some ⟨1,114,none⟩)), .pointer (some p), .int .u64 409]) w:=by kernel_rfl
theorem mk34 (p:Addr) (w:World):(Extern.ReflectliteValue.mk 34 p Extern.ReflectliteValue.flagAddr).run prog w= .ok (.agg #[(.pointer (some ⟨1,34,none⟩)), .pointer (some p), .int .u64 386]) w:=by kernel_rfl
theorem mm_AssignableTo (h:Value) (w:World):(method (mdepth prog) 193 (.agg #[h]) "AssignableTo").run prog w= .ok (180, .agg #[h]) w:=by kernel_rfl
theorem mm_Comparable (h:Value) (w:World):(method (mdepth prog) 193 (.agg #[h]) "Comparable").run prog w= .ok (181, .agg #[h]) w:=by kernel_rfl
theorem mm_Elem (h:Value) (w:World):(method (mdepth prog) 193 (.agg #[h]) "Elem").run prog w= .ok (182, .agg #[h]) w:=by kernel_rfl
theorem mm_Implements (h:Value) (w:World):(method (mdepth prog) 193 (.agg #[h]) "Implements").run prog w= .ok (183, .agg #[h]) w:=by kernel_rfl
theorem mm_Kind (h:Value) (w:World):(method (mdepth prog) 193 (.agg #[h]) "Kind").run prog w= .ok (169,h) w:=by kernel_rfl
theorem mr_AssignableTo_0_114 (w:World):((Extern.ReflectliteType.relation "AssignableTo" Extern.ReflectliteType.assignableTo) #[.agg #[(.pointer (some ⟨1,0,none⟩))],(.iface 193 (.agg #[.pointer (some ⟨1,114,none⟩)]))]).run prog w= .ok (.bool false) w:=by kernel_rfl
theorem mr_AssignableTo_0_34 (w:World):((Extern.ReflectliteType.relation "AssignableTo" Extern.ReflectliteType.assignableTo) #[.agg #[(.pointer (some ⟨1,0,none⟩))],(.iface 193 (.agg #[.pointer (some ⟨1,34,none⟩)]))]).run prog w= .ok (.bool false) w:=by kernel_rfl
theorem mr_AssignableTo_114_114 (w:World):((Extern.ReflectliteType.relation "AssignableTo" Extern.ReflectliteType.assignableTo) #[.agg #[(.pointer (some ⟨1,114,none⟩))],(.iface 193 (.agg #[.pointer (some ⟨1,114,none⟩)]))]).run prog w= .ok (.bool true) w:=by kernel_rfl
theorem mr_AssignableTo_114_34 (w:World):((Extern.ReflectliteType.relation "AssignableTo" Extern.ReflectliteType.assignableTo) #[.agg #[(.pointer (some ⟨1,114,none⟩))],(.iface 193 (.agg #[.pointer (some ⟨1,34,none⟩)]))]).run prog w= .ok (.bool false) w:=by kernel_rfl
theorem mr_AssignableTo_34_114 (w:World):((Extern.ReflectliteType.relation "AssignableTo" Extern.ReflectliteType.assignableTo) #[.agg #[(.pointer (some ⟨1,34,none⟩))],(.iface 193 (.agg #[.pointer (some ⟨1,114,none⟩)]))]).run prog w= .ok (.bool false) w:=by kernel_rfl
theorem mr_AssignableTo_34_34 (w:World):((Extern.ReflectliteType.relation "AssignableTo" Extern.ReflectliteType.assignableTo) #[.agg #[(.pointer (some ⟨1,34,none⟩))],(.iface 193 (.agg #[.pointer (some ⟨1,34,none⟩)]))]).run prog w= .ok (.bool true) w:=by kernel_rfl
theorem mr_Comparable_34 (w:World):((Extern.ReflectliteType.method fun t=>do Extern.Rtype.noPackHeld "Comparable" t;pure (.bool (←typeInfo t).comparable)) #[.agg #[(.pointer (some ⟨1,34,none⟩))]]).run prog w= .ok (.bool true) w:=by kernel_rfl
theorem mr_Elem_116 (w:World):((Extern.ReflectliteType.method Extern.ReflectliteType.elem) #[.agg #[(.pointer (some ⟨1,116,none⟩))]]).run prog w= .ok (.iface 193 (.agg #[.pointer (some ⟨1,114,none⟩)])) w:=by kernel_rfl
theorem mr_Elem_117 (w:World):((Extern.ReflectliteType.method Extern.ReflectliteType.elem) #[.agg #[(.pointer (some ⟨1,117,none⟩))]]).run prog w= .ok (.iface 193 (.agg #[.pointer (some ⟨1,34,none⟩)])) w:=by kernel_rfl
theorem mr_Implements_114_32 (w:World):((Extern.ReflectliteType.relation "Implements" Extern.ReflectliteType.implements_) #[.agg #[(.pointer (some ⟨1,114,none⟩))],(.iface 193 (.agg #[.pointer (some ⟨1,32,none⟩)]))]).run prog w= .ok (.bool true) w:=by kernel_rfl
theorem mr_Implements_34_32 (w:World):((Extern.ReflectliteType.relation "Implements" Extern.ReflectliteType.implements_) #[.agg #[(.pointer (some ⟨1,34,none⟩))],(.iface 193 (.agg #[.pointer (some ⟨1,32,none⟩)]))]).run prog w= .ok (.bool true) w:=by kernel_rfl
theorem mr_Kind_114 (w:World):((Extern.ReflectliteType.abiMethod fun t=>do pure (.int .u8 (←Extern.Rtype.kind t))) #[(.pointer (some ⟨1,114,none⟩))]).run prog w= .ok (.int .u8 (25:Int)) w:=by kernel_rfl
theorem mr_Kind_116 (w:World):((Extern.ReflectliteType.abiMethod fun t=>do pure (.int .u8 (←Extern.Rtype.kind t))) #[(.pointer (some ⟨1,116,none⟩))]).run prog w= .ok (.int .u8 (22:Int)) w:=by kernel_rfl
theorem mr_Kind_117 (w:World):((Extern.ReflectliteType.abiMethod fun t=>do pure (.int .u8 (←Extern.Rtype.kind t))) #[(.pointer (some ⟨1,117,none⟩))]).run prog w= .ok (.int .u8 (22:Int)) w:=by kernel_rfl
theorem mr_Kind_34 (w:World):((Extern.ReflectliteType.abiMethod fun t=>do pure (.int .u8 (←Extern.Rtype.kind t))) #[(.pointer (some ⟨1,34,none⟩))]).run prog w= .ok (.int .u8 (2:Int)) w:=by kernel_rfl
theorem pl116:plainT prog 116=true:=by kernel_rfl
theorem pl117:plainT prog 117=true:=by kernel_rfl
theorem pl128:plainT prog 128=true:=by kernel_rfl
theorem pl148:plainT prog 148=true:=by kernel_rfl
theorem pl212:plainT prog 212=true:=by kernel_rfl
theorem pl216:plainT prog 216=true:=by kernel_rfl
theorem pl22:plainT prog 22=true:=by kernel_rfl
theorem pl23:plainT prog 23=true:=by kernel_rfl
theorem pl24:plainT prog 24=true:=by kernel_rfl
theorem pl25:plainT prog 25=true:=by kernel_rfl
theorem pl3:plainT prog 3=true:=by kernel_rfl
theorem pl32:plainT prog 32=true:=by kernel_rfl
theorem pl34:plainT prog 34=true:=by kernel_rfl
theorem pl38:plainT prog 38=true:=by kernel_rfl
theorem pl4:plainT prog 4=true:=by kernel_rfl
theorem pl5:plainT prog 5=true:=by kernel_rfl
theorem pl53:plainT prog 53=true:=by kernel_rfl
theorem pl56:plainT prog 56=true:=by kernel_rfl
theorem pl77:plainT prog 77=true:=by kernel_rfl
theorem pl80:plainT prog 80=true:=by kernel_rfl
theorem pl82:plainT prog 82=true:=by kernel_rfl
theorem pl84:plainT prog 84=true:=by kernel_rfl
theorem pl87:plainT prog 87=true:=by kernel_rfl
theorem pl9:plainT prog 9=true:=by kernel_rfl
theorem pp114_153 (a:Addr) (w:World):(Extern.ReflectliteValue.parts (.agg #[(.pointer (some ⟨1,114,none⟩)), .pointer (some a), .int .u64 153])).run prog w= .ok (some (114,a,153)) w:=by kernel_rfl
theorem pp114_409 (a:Addr) (w:World):(Extern.ReflectliteValue.parts (.agg #[(.pointer (some ⟨1,114,none⟩)), .pointer (some a), .int .u64 409])).run prog w= .ok (some (114,a,409)) w:=by kernel_rfl
theorem pp116_150 (a:Addr) (w:World):(Extern.ReflectliteValue.parts (.agg #[(.pointer (some ⟨1,116,none⟩)), .pointer (some a), .int .u64 150])).run prog w= .ok (some (116,a,150)) w:=by kernel_rfl
theorem pp117_150 (a:Addr) (w:World):(Extern.ReflectliteValue.parts (.agg #[(.pointer (some ⟨1,117,none⟩)), .pointer (some a), .int .u64 150])).run prog w= .ok (some (117,a,150)) w:=by kernel_rfl
theorem pp34_130 (a:Addr) (w:World):(Extern.ReflectliteValue.parts (.agg #[(.pointer (some ⟨1,34,none⟩)), .pointer (some a), .int .u64 130])).run prog w= .ok (some (34,a,130)) w:=by kernel_rfl
theorem pp34_386 (a:Addr) (w:World):(Extern.ReflectliteValue.parts (.agg #[(.pointer (some ⟨1,34,none⟩)), .pointer (some a), .int .u64 386])).run prog w= .ok (some (34,a,386)) w:=by kernel_rfl
theorem sz111:(prog.info? 111).map (·.size)=some 18:=by kernel_rfl
theorem sz114:(prog.info? 114).map (·.size)=some 3:=by kernel_rfl
theorem sz128:(prog.info? 128).map (·.size)=some 1:=by kernel_rfl
theorem sz144:(prog.info? 144).map (·.size)=some 3:=by kernel_rfl
theorem sz154:(prog.info? 154).map (·.size)=some 3:=by kernel_rfl
theorem sz22:(prog.info? 22).map (·.size)=some 1:=by kernel_rfl
theorem sz23:(prog.info? 23).map (·.size)=some 1:=by kernel_rfl
theorem sz24:(prog.info? 24).map (·.size)=some 1:=by kernel_rfl
theorem sz25:(prog.info? 25).map (·.size)=some 1:=by kernel_rfl
theorem sz27:(prog.info? 27).map (·.size)=some 5:=by kernel_rfl
theorem sz3:(prog.info? 3).map (·.size)=some 1:=by kernel_rfl
theorem sz32:(prog.info? 32).map (·.size)=some 1:=by kernel_rfl
theorem sz34:(prog.info? 34).map (·.size)=some 1:=by kernel_rfl
theorem sz36:(prog.info? 36).map (·.size)=some 3:=by kernel_rfl
theorem sz38:(prog.info? 38).map (·.size)=some 1:=by kernel_rfl
theorem sz4:(prog.info? 4).map (·.size)=some 1:=by kernel_rfl
theorem sz5:(prog.info? 5).map (·.size)=some 1:=by kernel_rfl
theorem sz53:(prog.info? 53).map (·.size)=some 1:=by kernel_rfl
theorem sz55:(prog.info? 55).map (·.size)=some 3:=by kernel_rfl
theorem sz56:(prog.info? 56).map (·.size)=some 1:=by kernel_rfl
theorem sz58:(prog.info? 58).map (·.size)=some 6:=by kernel_rfl
theorem sz67:(prog.info? 67).map (·.size)=some 3:=by kernel_rfl
theorem sz68:(prog.info? 68).map (·.size)=some 2:=by kernel_rfl
theorem sz71:(prog.info? 71).map (·.size)=some 5:=by kernel_rfl
theorem sz76:(prog.info? 76).map (·.size)=some 3:=by kernel_rfl
theorem sz77:(prog.info? 77).map (·.size)=some 1:=by kernel_rfl
theorem sz80:(prog.info? 80).map (·.size)=some 1:=by kernel_rfl
theorem sz82:(prog.info? 82).map (·.size)=some 1:=by kernel_rfl
theorem sz84:(prog.info? 84).map (·.size)=some 1:=by kernel_rfl
theorem sz87:(prog.info? 87).map (·.size)=some 1:=by kernel_rfl
theorem sz9:(prog.info? 9).map (·.size)=some 1:=by kernel_rfl
theorem ty0 (v:Value) (w:World):(Extern.ReflectliteType.typeOf #[.iface 0 v]).run prog w= .ok (.iface 193 (.agg #[(.pointer (some ⟨1,0,none⟩))])) w:=by kernel_rfl
theorem ty114 (v:Value) (w:World):(Extern.ReflectliteType.typeOf #[.iface 114 v]).run prog w= .ok (.iface 193 (.agg #[(.pointer (some ⟨1,114,none⟩))])) w:=by kernel_rfl
theorem ty34 (v:Value) (w:World):(Extern.ReflectliteType.typeOf #[.iface 34 v]).run prog w= .ok (.iface 193 (.agg #[(.pointer (some ⟨1,34,none⟩))])) w:=by kernel_rfl
theorem tyNil (w:World):(Extern.ReflectliteType.typeOf #[.nilIface]).run prog w= .ok .nilIface w:=by kernel_rfl
theorem us128:(prog.underlying 128).isSome=true:=by kernel_rfl
theorem us172:(prog.underlying 172).isSome=true:=by kernel_rfl
theorem us3:(prog.underlying 3).isSome=true:=by kernel_rfl
theorem us5:(prog.underlying 5).isSome=true:=by kernel_rfl
theorem vo114 (o:ByteArray) (n:Int) (e:Value) (w:World):(Extern.ReflectliteValue.unpack (.iface 114 (.agg #[.string o, .int .i64 n,e]))).run prog w= .ok (.agg #[(.pointer (some ⟨1,114,none⟩)), .pointer (some ⟨w.heap.size,0,none⟩), .int .u64 153]) (w.alloc (.cells #[.string o, .int .i64 n,e] 114)):=by kernel_rfl
theorem vo116 (p:Addr) (w:World):(Extern.ReflectliteValue.unpack (.iface 116 (.pointer (some p)))).run prog w= .ok (.agg #[(.pointer (some ⟨1,116,none⟩)), .pointer (some ⟨w.heap.size,0,none⟩), .int .u64 150]) (w.alloc (.cells #[.pointer (some p)] 116)):=by kernel_rfl
theorem vo117 (p:Addr) (w:World):(Extern.ReflectliteValue.unpack (.iface 117 (.pointer (some p)))).run prog w= .ok (.agg #[(.pointer (some ⟨1,117,none⟩)), .pointer (some ⟨w.heap.size,0,none⟩), .int .u64 150]) (w.alloc (.cells #[.pointer (some p)] 117)):=by kernel_rfl
theorem vo34 (n:Int) (w:World):(Extern.ReflectliteValue.unpack (.iface 34 (.int .i64 n))).run prog w= .ok (.agg #[(.pointer (some ⟨1,34,none⟩)), .pointer (some ⟨w.heap.size,0,none⟩), .int .u64 130]) (w.alloc (.cells #[.int .i64 n] 34)):=by kernel_rfl
theorem vt116_150 (a:Addr) (w:World):((Extern.ReflectliteValue.methodAny (Extern.ReflectliteValue.valueError "reflectlite.Value.Type" 0) (fun t _ _ _=>Extern.ReflectliteType.toType t)) #[.agg #[(.pointer (some ⟨1,116,none⟩)), .pointer (some a), .int .u64 150]]).run prog w= .ok (.iface 193 (.agg #[(.pointer (some ⟨1,116,none⟩))])) w:=by kernel_rfl
theorem vt117_150 (a:Addr) (w:World):((Extern.ReflectliteValue.methodAny (Extern.ReflectliteValue.valueError "reflectlite.Value.Type" 0) (fun t _ _ _=>Extern.ReflectliteType.toType t)) #[.agg #[(.pointer (some ⟨1,117,none⟩)), .pointer (some a), .int .u64 150]]).run prog w= .ok (.iface 193 (.agg #[(.pointer (some ⟨1,117,none⟩))])) w:=by kernel_rfl
theorem xt101:ExtOk prog 101 (fun args=>Extern.ReflectliteValue.unpack (args.getD 0 (.tuple #[]))):=fun args w=>run_callFunc_extern (e:=(fun args=>Extern.ReflectliteValue.unpack (args.getD 0 (.tuple #[])))) func101 (by kernel_rfl) (by kernel_rfl) (by kernel_rfl) (by kernel_rfl) args w
theorem xt102:ExtOk prog 102 (Extern.ReflectliteValue.methodAny (Extern.ReflectliteValue.valueError "reflectlite.Value.Type" 0) (fun t _ _ _=>Extern.ReflectliteType.toType t)):=fun args w=>run_callFunc_extern (e:=(Extern.ReflectliteValue.methodAny (Extern.ReflectliteValue.valueError "reflectlite.Value.Type" 0) (fun t _ _ _=>Extern.ReflectliteType.toType t))) func102 (by kernel_rfl) (by kernel_rfl) (by kernel_rfl) (by kernel_rfl) args w
theorem xt103:ExtOk prog 103 (Extern.ReflectliteValue.method (Extern.ReflectliteValue.valueError "reflectlite.Value.IsNil" 0) Extern.ReflectliteValue.isNil):=fun args w=>run_callFunc_extern (e:=(Extern.ReflectliteValue.method (Extern.ReflectliteValue.valueError "reflectlite.Value.IsNil" 0) Extern.ReflectliteValue.isNil)) func103 (by kernel_rfl) (by kernel_rfl) (by kernel_rfl) (by kernel_rfl) args w
theorem xt137:ExtOk prog 137 (Extern.ReflectliteValue.method (Extern.ReflectliteValue.valueError "reflectlite.Value.Elem" 0) Extern.ReflectliteValue.elem):=fun args w=>run_callFunc_extern (e:=(Extern.ReflectliteValue.method (Extern.ReflectliteValue.valueError "reflectlite.Value.Elem" 0) Extern.ReflectliteValue.elem)) func137 (by kernel_rfl) (by kernel_rfl) (by kernel_rfl) (by kernel_rfl) args w
theorem xt138:ExtOk prog 138 Extern.ReflectliteValue.set:=fun args w=>run_callFunc_extern (e:=Extern.ReflectliteValue.set) func138 (by kernel_rfl) (by kernel_rfl) (by kernel_rfl) (by kernel_rfl) args w
theorem xt169:ExtOk prog 169 (Extern.ReflectliteType.abiMethod fun t=>do pure (.int .u8 (←Extern.Rtype.kind t))):=fun args w=>run_callFunc_extern (e:=(Extern.ReflectliteType.abiMethod fun t=>do pure (.int .u8 (←Extern.Rtype.kind t)))) func169 (by kernel_rfl) (by kernel_rfl) (by kernel_rfl) (by kernel_rfl) args w
theorem xt180:ExtOk prog 180 (Extern.ReflectliteType.relation "AssignableTo" Extern.ReflectliteType.assignableTo):=fun args w=>run_callFunc_extern (e:=(Extern.ReflectliteType.relation "AssignableTo" Extern.ReflectliteType.assignableTo)) func180 (by kernel_rfl) (by kernel_rfl) (by kernel_rfl) (by kernel_rfl) args w
theorem xt181:ExtOk prog 181 (Extern.ReflectliteType.method fun t=>do Extern.Rtype.noPackHeld "Comparable" t;pure (.bool (←typeInfo t).comparable)):=fun args w=>run_callFunc_extern (e:=(Extern.ReflectliteType.method fun t=>do Extern.Rtype.noPackHeld "Comparable" t;pure (.bool (←typeInfo t).comparable))) func181 (by kernel_rfl) (by kernel_rfl) (by kernel_rfl) (by kernel_rfl) args w
theorem xt182:ExtOk prog 182 (Extern.ReflectliteType.method Extern.ReflectliteType.elem):=fun args w=>run_callFunc_extern (e:=(Extern.ReflectliteType.method Extern.ReflectliteType.elem)) func182 (by kernel_rfl) (by kernel_rfl) (by kernel_rfl) (by kernel_rfl) args w
theorem xt183:ExtOk prog 183 (Extern.ReflectliteType.relation "Implements" Extern.ReflectliteType.implements_):=fun args w=>run_callFunc_extern (e:=(Extern.ReflectliteType.relation "Implements" Extern.ReflectliteType.implements_)) func183 (by kernel_rfl) (by kernel_rfl) (by kernel_rfl) (by kernel_rfl) args w
theorem xt99:ExtOk prog 99 Extern.ReflectliteType.typeOf:=fun args w=>run_callFunc_extern (e:=Extern.ReflectliteType.typeOf) func99 (by kernel_rfl) (by kernel_rfl) (by kernel_rfl) (by kernel_rfl) args w
theorem ze111:(prog.info? 111).map (·.zero)=some (some (.agg #[(.int .i64 (0:Int)),(.int .i64 (0:Int)),(.int .i64 (0:Int)),(.int .i64 (0:Int)),(.int .i64 (0:Int)),(.int .i64 (0:Int)),(.int .i64 (0:Int)),(.int .i64 (0:Int)),(.int .i64 (0:Int)),(.bool false),(.string (⟨#[]⟩:ByteArray)),(.string (⟨#[]⟩:ByteArray)),(.string (⟨#[]⟩:ByteArray)),(.string (⟨#[]⟩:ByteArray)),(.slice none 0 0),(.slice none 0 0),(.slice none 0 0),(.slice none 0 0)])):=by kernel_rfl
theorem ze114:(prog.info? 114).map (·.zero)=some (some (.agg #[(.string (⟨#[]⟩:ByteArray)),(.int .i64 (0:Int)),(.nilIface)])):=by kernel_rfl
theorem ze128:(prog.info? 128).map (·.zero)=some (some (.int .u64 (0:Int))):=by kernel_rfl
theorem ze130:(prog.info? 130).map (·.zero)=some (some (.agg #[(.slice none 0 0),(.int .i64 (0:Int)),(.nilIface)])):=by kernel_rfl
theorem ze144:(prog.info? 144).map (·.zero)=some (some (.agg #[(.string (⟨#[]⟩:ByteArray)),(.int .i64 (0:Int)),(.int .i64 (0:Int))])):=by kernel_rfl
theorem ze154:(prog.info? 154).map (·.zero)=some (some (.agg #[(.pointer none),(.pointer none),(.int .u64 (0:Int))])):=by kernel_rfl
theorem ze27:(prog.info? 27).map (·.zero)=some (some (.agg #[(.slice none 0 0),(.slice none 0 0),(.slice none 0 0),(.slice none 0 0),(.int .i64 (0:Int))])):=by kernel_rfl
theorem ze3:(prog.info? 3).map (·.zero)=some (some (.int .i64 (0:Int))):=by kernel_rfl
theorem ze34:(prog.info? 34).map (·.zero)=some (some (.int .i64 (0:Int))):=by kernel_rfl
theorem ze36:(prog.info? 36).map (·.zero)=some (some (.agg #[(.string (⟨#[]⟩:ByteArray)),(.int .i64 (0:Int)),(.int .i64 (0:Int))])):=by kernel_rfl
theorem ze38:(prog.info? 38).map (·.zero)=some (some (.slice none 0 0)):=by kernel_rfl
theorem ze55:(prog.info? 55).map (·.zero)=some (some (.agg #[(.int .i64 (0:Int)),(.string (⟨#[]⟩:ByteArray)),(.slice none 0 0)])):=by kernel_rfl
theorem ze58:(prog.info? 58).map (·.zero)=some (some (.agg #[(.slice none 0 0),(.slice none 0 0),(.int .i64 (0:Int)),(.int .i64 (0:Int)),(.slice none 0 0),(.slice none 0 0)])):=by kernel_rfl
theorem ze67:(prog.info? 67).map (·.zero)=some (some (.agg #[(.int .i64 (0:Int)),(.int .i64 (0:Int)),(.int .i64 (0:Int))])):=by kernel_rfl
theorem ze68:(prog.info? 68).map (·.zero)=some (some (.agg #[(.int .i64 (0:Int)),(.int .i64 (0:Int))])):=by kernel_rfl
theorem ze71:(prog.info? 71).map (·.zero)=some (some (.agg #[(.int .i64 (0:Int)),(.int .i64 (0:Int)),(.string (⟨#[]⟩:ByteArray)),(.bool false),(.bool false)])):=by kernel_rfl
theorem ze76:(prog.info? 76).map (·.zero)=some (some (.agg #[(.int .i64 (0:Int)),(.string (⟨#[]⟩:ByteArray)),(.string (⟨#[]⟩:ByteArray))])):=by kernel_rfl
theorem ze77:(prog.info? 77).map (·.zero)=some (some (.pointer none)):=by kernel_rfl
theorem ze80:(prog.info? 80).map (·.zero)=some (some .nilFunc):=by kernel_rfl
theorem ze82:(prog.info? 82).map (·.zero)=some (some .nilFunc):=by kernel_rfl
theorem ze84:(prog.info? 84).map (·.zero)=some (some .nilFunc):=by kernel_rfl
theorem ze87:(prog.info? 87).map (·.zero)=some (some .nilFunc):=by kernel_rfl
theorem zo195:(prog.info? 195).map (·.zero)=some (some .nilIface):=by kernel_rfl
theorem zo198:(prog.info? 198).map (·.zero)=some (some .nilIface):=by kernel_rfl
theorem zo199:(prog.info? 199).map (·.zero)=some (some .nilIface):=by kernel_rfl
theorem mixed:prog.follows .mixedOrders=true:=by kernel_rfl
abbrev lit7_:T_ref16_Wrong:=⟨(⟨#[]⟩:ByteArray),(0:Int),(0:Int)⟩
abbrev lit6_:T_api_Record:=⟨(4:Int),(2:Int),(1:Int),(0:Int),(0:Int),(0:Int),(0:Int),(0:Int),(0:Int),false,(⟨#[]⟩:ByteArray),(⟨#[]⟩:ByteArray),(⟨#[]⟩:ByteArray),(⟨#[]⟩:ByteArray),[],[],[],[]⟩
abbrev lit5_:T_api_Record:=⟨(4:Int),(1:Int),(1:Int),(0:Int),(0:Int),(0:Int),(0:Int),(0:Int),(0:Int),false,(⟨#[]⟩:ByteArray),(⟨#[]⟩:ByteArray),(⟨#[]⟩:ByteArray),(⟨#[]⟩:ByteArray),[],[],[],[]⟩
abbrev lit4_:T_api_Record:=⟨(2:Int),(2:Int),(1:Int),(0:Int),(0:Int),(0:Int),(0:Int),(0:Int),(0:Int),false,(⟨#[]⟩:ByteArray),(⟨#[]⟩:ByteArray),(⟨#[]⟩:ByteArray),(⟨#[98]⟩:ByteArray),[],[],[],[]⟩
abbrev lit3_:T_api_Record:=⟨(2:Int),(1:Int),(1:Int),(0:Int),(0:Int),(0:Int),(0:Int),(0:Int),(0:Int),false,(⟨#[]⟩:ByteArray),(⟨#[]⟩:ByteArray),(⟨#[]⟩:ByteArray),(⟨#[97]⟩:ByteArray),[],[],[],[]⟩
abbrev lit2_:T_api_Record:=⟨(7:Int),(0:Int),(0:Int),(1:Int),(0:Int),(0:Int),(0:Int),(0:Int),(0:Int),false,(⟨#[116]⟩:ByteArray),(⟨#[]⟩:ByteArray),(⟨#[]⟩:ByteArray),(⟨#[]⟩:ByteArray),[],[],[],[]⟩
abbrev lit1_:T_api_Record:=⟨(8:Int),(0:Int),(0:Int),(1:Int),(0:Int),(1:Int),(0:Int),(0:Int),(0:Int),false,(⟨#[]⟩:ByteArray),(⟨#[]⟩:ByteArray),(⟨#[]⟩:ByteArray),(⟨#[]⟩:ByteArray),[(1:Int),(2:Int)],[(1:Int),(2:Int)],[],[]⟩
end Go.Proofs.YtpcbipcdfccnnaaGreatDoor.G
