/- Closed facts on the program's types. Printed by a program of the session (gen). -/
import Derived.Test.YtpcbipcdfccnnaaGreatDoorPT
import Derived.Test.YtpcbipcdfccnnaaGreatDoorProg
set_option linter.unusedVariables false
set_option linter.unusedSimpArgs false
set_option maxHeartbeats 8000000
set_option maxRecDepth 100000
namespace Go.Proofs.YtpcbipcdfccnnaaGreatDoor.G
open Go Go.KK
open PO EO IntKind Sum Tryz
def Env (M:IM):Prop:=M.cell ⟨0,0,none⟩=some (.iface 193 (.agg #[(.pointer (some ⟨1,32,none⟩))]))
theorem Env.mono {M M':IM}(h:Env M) (hle:M.le M'):Env M':=hle.cell h
theorem Qu8:aggB prog 111=true:=by kernel_rfl
theorem Q85:aggB prog 114=true:=by kernel_rfl
theorem Qp5:aggB prog 144=true:=by kernel_rfl
theorem Qx9:aggB prog 154=true:=by kernel_rfl
theorem ag27:aggB prog 27=true:=by kernel_rfl
theorem ag36:aggB prog 36=true:=by kernel_rfl
theorem ag55:aggB prog 55=true:=by kernel_rfl
theorem ag58:aggB prog 58=true:=by kernel_rfl
theorem ag67:aggB prog 67=true:=by kernel_rfl
theorem ag68:aggB prog 68=true:=by kernel_rfl
theorem ag71:aggB prog 71=true:=by kernel_rfl
theorem ag76:aggB prog 76=true:=by kernel_rfl
theorem Q7B:prog.concrete 114=true:=by kernel_rfl
theorem Q7C:prog.concrete 116=true:=by kernel_rfl
theorem Q86:prog.concrete 117=true:=by kernel_rfl
theorem cc34:prog.concrete 34=true:=by kernel_rfl
theorem cm34:(prog.info? 34).map (·.comparable)=some true:=by kernel_rfl
theorem co10:QaM prog 10=true:=by kernel_rfl
theorem Q87:QaM prog 100=true:=by kernel_rfl
theorem Q7D:QaM prog 104=true:=by kernel_rfl
theorem Q88:QaM prog 105=true:=by kernel_rfl
theorem Q89:QaM prog 106=true:=by kernel_rfl
theorem Q9A:QaM prog 107=true:=by kernel_rfl
theorem Q9B:QaM prog 108=true:=by kernel_rfl
theorem Q9C:QaM prog 109=true:=by kernel_rfl
theorem co11:QaM prog 11=true:=by kernel_rfl
theorem Q7E:QaM prog 110=true:=by kernel_rfl
theorem Q12:QaM prog 111=true:=by kernel_rfl
theorem Q9D:QaM prog 112=true:=by kernel_rfl
theorem Q9E:QaM prog 113=true:=by kernel_rfl
theorem Q13:QaM prog 114=true:=by kernel_rfl
theorem Q7F:QaM prog 115=true:=by kernel_rfl
theorem QzD:QaM prog 116=true:=by kernel_rfl
theorem Q9F:QaM prog 117=true:=by kernel_rfl
theorem Q33:QaM prog 118=true:=by kernel_rfl
theorem Q34:QaM prog 119=true:=by kernel_rfl
theorem co12:QaM prog 12=true:=by kernel_rfl
theorem Q9G:QaM prog 126=true:=by kernel_rfl
theorem QnU:QaM prog 127=true:=by kernel_rfl
theorem Q6C:QaM prog 128=true:=by kernel_rfl
theorem Q35:QaM prog 129=true:=by kernel_rfl
theorem co13:QaM prog 13=true:=by kernel_rfl
theorem Q14:QaM prog 130=true:=by kernel_rfl
theorem Q7G:QaM prog 131=true:=by kernel_rfl
theorem Q9H:QaM prog 132=true:=by kernel_rfl
theorem Q7H:QaM prog 133=true:=by kernel_rfl
theorem Q9I:QaM prog 134=true:=by kernel_rfl
theorem Q9J:QaM prog 135=true:=by kernel_rfl
theorem Q9K:QaM prog 136=true:=by kernel_rfl
theorem Q9L:QaM prog 139=true:=by kernel_rfl
theorem co14:QaM prog 14=true:=by kernel_rfl
theorem Q9M:QaM prog 140=true:=by kernel_rfl
theorem Q9N:QaM prog 141=true:=by kernel_rfl
theorem Q9O:QaM prog 142=true:=by kernel_rfl
theorem Q9P:QaM prog 143=true:=by kernel_rfl
theorem Q9Q:QaM prog 144=true:=by kernel_rfl
theorem Q09:QaM prog 145=true:=by kernel_rfl
theorem Q9R:QaM prog 146=true:=by kernel_rfl
theorem QyA:QaM prog 147=true:=by kernel_rfl
theorem Q9S:QaM prog 148=true:=by kernel_rfl
theorem Q9T:QaM prog 149=true:=by kernel_rfl
theorem co15:QaM prog 15=true:=by kernel_rfl
theorem Q9U:QaM prog 150=true:=by kernel_rfl
theorem Q9V:QaM prog 151=true:=by kernel_rfl
theorem Q7I:QaM prog 152=true:=by kernel_rfl
theorem Q9W:QaM prog 153=true:=by kernel_rfl
theorem Q7J:QaM prog 154=true:=by kernel_rfl
theorem co17:QaM prog 17=true:=by kernel_rfl
theorem Q7K:QaM prog 175=true:=by kernel_rfl
theorem co18:QaM prog 18=true:=by kernel_rfl
theorem co19:QaM prog 19=true:=by kernel_rfl
theorem co20:QaM prog 20=true:=by kernel_rfl
theorem co21:QaM prog 21=true:=by kernel_rfl
theorem co22:QaM prog 22=true:=by kernel_rfl
theorem co23:QaM prog 23=true:=by kernel_rfl
theorem co24:QaM prog 24=true:=by kernel_rfl
theorem co25:QaM prog 25=true:=by kernel_rfl
theorem co26:QaM prog 26=true:=by kernel_rfl
theorem co27:QaM prog 27=true:=by kernel_rfl
theorem co28:QaM prog 28=true:=by kernel_rfl
theorem co29:QaM prog 29=true:=by kernel_rfl
theorem co30:QaM prog 30=true:=by kernel_rfl
theorem co31:QaM prog 31=true:=by kernel_rfl
theorem co32:QaM prog 32=true:=by kernel_rfl
theorem co33:QaM prog 33=true:=by kernel_rfl
theorem co34:QaM prog 34=true:=by kernel_rfl
theorem co35:QaM prog 35=true:=by kernel_rfl
theorem co36:QaM prog 36=true:=by kernel_rfl
theorem co37:QaM prog 37=true:=by kernel_rfl
theorem co38:QaM prog 38=true:=by kernel_rfl
theorem co39:QaM prog 39=true:=by kernel_rfl
theorem co40:QaM prog 40=true:=by kernel_rfl
theorem co41:QaM prog 41=true:=by kernel_rfl
theorem co42:QaM prog 42=true:=by kernel_rfl
theorem co43:QaM prog 43=true:=by kernel_rfl
theorem co44:QaM prog 44=true:=by kernel_rfl
theorem co45:QaM prog 45=true:=by kernel_rfl
theorem co46:QaM prog 46=true:=by kernel_rfl
theorem co47:QaM prog 47=true:=by kernel_rfl
theorem co48:QaM prog 48=true:=by kernel_rfl
theorem co49:QaM prog 49=true:=by kernel_rfl
theorem co50:QaM prog 50=true:=by kernel_rfl
theorem co51:QaM prog 51=true:=by kernel_rfl
theorem co52:QaM prog 52=true:=by kernel_rfl
theorem co53:QaM prog 53=true:=by kernel_rfl
theorem co54:QaM prog 54=true:=by kernel_rfl
theorem co55:QaM prog 55=true:=by kernel_rfl
theorem co56:QaM prog 56=true:=by kernel_rfl
theorem co57:QaM prog 57=true:=by kernel_rfl
theorem co58:QaM prog 58=true:=by kernel_rfl
theorem co59:QaM prog 59=true:=by kernel_rfl
theorem co6:QaM prog 6=true:=by kernel_rfl
theorem co60:QaM prog 60=true:=by kernel_rfl
theorem co66:QaM prog 66=true:=by kernel_rfl
theorem co67:QaM prog 67=true:=by kernel_rfl
theorem co68:QaM prog 68=true:=by kernel_rfl
theorem co69:QaM prog 69=true:=by kernel_rfl
theorem co7:QaM prog 7=true:=by kernel_rfl
theorem co70:QaM prog 70=true:=by kernel_rfl
theorem co71:QaM prog 71=true:=by kernel_rfl
theorem co72:QaM prog 72=true:=by kernel_rfl
theorem co73:QaM prog 73=true:=by kernel_rfl
theorem co74:QaM prog 74=true:=by kernel_rfl
theorem co75:QaM prog 75=true:=by kernel_rfl
theorem co76:QaM prog 76=true:=by kernel_rfl
theorem co77:QaM prog 77=true:=by kernel_rfl
theorem co78:QaM prog 78=true:=by kernel_rfl
theorem co79:QaM prog 79=true:=by kernel_rfl
theorem co8:QaM prog 8=true:=by kernel_rfl
theorem co80:QaM prog 80=true:=by kernel_rfl
theorem co81:QaM prog 81=true:=by kernel_rfl
theorem co82:QaM prog 82=true:=by kernel_rfl
theorem co83:QaM prog 83=true:=by kernel_rfl
theorem co84:QaM prog 84=true:=by kernel_rfl
theorem co85:QaM prog 85=true:=by kernel_rfl
theorem co86:QaM prog 86=true:=by kernel_rfl
theorem co9:QaM prog 9=true:=by kernel_rfl
theorem co91:QaM prog 91=true:=by kernel_rfl
theorem co92:QaM prog 92=true:=by kernel_rfl
theorem co93:QaM prog 93=true:=by kernel_rfl
theorem co94:QaM prog 94=true:=by kernel_rfl
theorem co95:QaM prog 95=true:=by kernel_rfl
theorem co96:QaM prog 96=true:=by kernel_rfl
theorem co97:QaM prog 97=true:=by kernel_rfl
theorem co98:QaM prog 98=true:=by kernel_rfl
theorem Q9X (w:World):(Extern.Rtype.directlyAssignable 114 114).run prog w= .ok true w:=by kernel_rfl
theorem da34 (w:World):(Extern.Rtype.directlyAssignable 34 34).run prog w= .ok true w:=by kernel_rfl
theorem eg67:prog.eqGuardType prog.depth 67=false:=by kernel_rfl
theorem eg71:prog.eqGuardType prog.depth 71=false:=by kernel_rfl
theorem eg76:prog.eqGuardType prog.depth 76=false:=by kernel_rfl
theorem Q9Y (w:World):(Extern.Rtype.elem? 116).run prog w= .ok (some 114) w:=by kernel_rfl
theorem Q9Z (w:World):(Extern.Rtype.elem? 117).run prog w= .ok (some 34) w:=by kernel_rfl
theorem eq67:QlN prog 67=true:=by kernel_rfl
theorem eq71:QlN prog 71=true:=by kernel_rfl
theorem eq76:QlN prog 76=true:=by kernel_rfl
theorem Qu9:Qb9 prog 111 0=some 0:=by kernel_rfl
theorem Qp6:Qb9 prog 111 1=some 1:=by kernel_rfl
theorem QrG:Qb9 prog 111 10=some 10:=by kernel_rfl
theorem QmK:Qb9 prog 111 11=some 11:=by kernel_rfl
theorem QrH:Qb9 prog 111 12=some 12:=by kernel_rfl
theorem Qw3:Qb9 prog 111 13=some 13:=by kernel_rfl
theorem Qt6:Qb9 prog 111 14=some 14:=by kernel_rfl
theorem Qw4:Qb9 prog 111 15=some 15:=by kernel_rfl
theorem Qw5:Qb9 prog 111 16=some 16:=by kernel_rfl
theorem Qw6:Qb9 prog 111 17=some 17:=by kernel_rfl
theorem Ql1:Qb9 prog 111 2=some 2:=by kernel_rfl
theorem QgV:Qb9 prog 111 3=some 3:=by kernel_rfl
theorem QnV:Qb9 prog 111 4=some 4:=by kernel_rfl
theorem QvA:Qb9 prog 111 5=some 5:=by kernel_rfl
theorem QvB:Qb9 prog 111 6=some 6:=by kernel_rfl
theorem Qw7:Qb9 prog 111 7=some 7:=by kernel_rfl
theorem QzE:Qb9 prog 111 8=some 8:=by kernel_rfl
theorem Qw8:Qb9 prog 111 9=some 9:=by kernel_rfl
theorem Q6D:Qb9 prog 114 0=some 0:=by kernel_rfl
theorem Q6E:Qb9 prog 114 1=some 1:=by kernel_rfl
theorem Q15:Qb9 prog 114 2=some 2:=by kernel_rfl
theorem QnW:Qb9 prog 130 0=some 0:=by kernel_rfl
theorem QdY:Qb9 prog 130 1=some 1:=by kernel_rfl
theorem QmL:Qb9 prog 130 2=some 2:=by kernel_rfl
theorem Qw9:Qb9 prog 144 2=some 2:=by kernel_rfl
theorem QdN:Qb9 prog 27 0=some 0:=by kernel_rfl
theorem QbW:Qb9 prog 27 1=some 1:=by kernel_rfl
theorem Qc5:Qb9 prog 27 2=some 2:=by kernel_rfl
theorem QdW:Qb9 prog 27 3=some 3:=by kernel_rfl
theorem QmS:Qb9 prog 27 4=some 4:=by kernel_rfl
theorem Q7L:Qb9 prog 36 0=some 0:=by kernel_rfl
theorem Q7M:Qb9 prog 36 1=some 1:=by kernel_rfl
theorem QvC:Qb9 prog 36 2=some 2:=by kernel_rfl
theorem Qk0:Qb9 prog 55 0=some 0:=by kernel_rfl
theorem QlP:Qb9 prog 55 1=some 1:=by kernel_rfl
theorem QdB:Qb9 prog 55 2=some 2:=by kernel_rfl
theorem QiE:Qb9 prog 58 0=some 0:=by kernel_rfl
theorem QlJ:Qb9 prog 58 1=some 1:=by kernel_rfl
theorem Qk1:Qb9 prog 58 2=some 2:=by kernel_rfl
theorem Ql6:Qb9 prog 58 3=some 3:=by kernel_rfl
theorem QmT:Qb9 prog 58 4=some 4:=by kernel_rfl
theorem Ql7:Qb9 prog 58 5=some 5:=by kernel_rfl
theorem QrI:Qb9 prog 67 0=some 0:=by kernel_rfl
theorem QpF:Qb9 prog 67 1=some 1:=by kernel_rfl
theorem Qs4:Qb9 prog 67 2=some 2:=by kernel_rfl
theorem QhQ:Qb9 prog 71 0=some 0:=by kernel_rfl
theorem QmU:Qb9 prog 71 1=some 1:=by kernel_rfl
theorem QpG:Qb9 prog 71 2=some 2:=by kernel_rfl
theorem QnX:Qb9 prog 71 3=some 3:=by kernel_rfl
theorem Qs5:Qb9 prog 71 4=some 4:=by kernel_rfl
theorem QeF:Qb9 prog 76 0=some 0:=by kernel_rfl
theorem QfV:Qb9 prog 76 1=some 1:=by kernel_rfl
theorem QfW:Qb9 prog 76 2=some 2:=by kernel_rfl
theorem Q1A:Qg0 prog 111=some [(0,1),(1,1),(2,1),(3,1),(4,1),(5,1),(6,1),(7,1),(8,1),(9,1),(10,1),(11,1),(12,1),(13,1),(14,1),(15,1),(16,1),(17,1)]:=by kernel_rfl
theorem Q7N:Qg0 prog 114=some [(0,1),(1,1),(2,1)]:=by kernel_rfl
theorem Q90:Qg0 prog 130=some [(0,1),(1,1),(2,1)]:=by kernel_rfl
theorem QsQ:Qg0 prog 144=some [(0,1),(1,1),(2,1)]:=by kernel_rfl
theorem fp27:Qg0 prog 27=some [(0,1),(1,1),(2,1),(3,1),(4,1)]:=by kernel_rfl
theorem fp36:Qg0 prog 36=some [(0,1),(1,1),(2,1)]:=by kernel_rfl
theorem fp55:Qg0 prog 55=some [(0,1),(1,1),(2,1)]:=by kernel_rfl
theorem fp58:Qg0 prog 58=some [(0,1),(1,1),(2,1),(3,1),(4,1),(5,1)]:=by kernel_rfl
theorem fp67:Qg0 prog 67=some [(0,1),(1,1),(2,1)]:=by kernel_rfl
theorem fp71:Qg0 prog 71=some [(0,1),(1,1),(2,1),(3,1),(4,1)]:=by kernel_rfl
theorem fp76:Qg0 prog 76=some [(0,1),(1,1),(2,1)]:=by kernel_rfl
theorem QyB (v:Value) (xT:TypeId) (w:World):(Instr.typeAssert (.iface 114 v) xT 198 true).run prog w= .ok (.tuple #[.iface 114 v, .bool true]) w:=run_typeAssert_hasB underlying198 (by kernel_rfl) v xT w
theorem in3:(prog.info? 3).map (fun i=>(i.size,i.bytes,i.zero))=some (1,8,some (.int .i64 (0:Int))):=by kernel_rfl
theorem in5:(prog.info? 5).map (fun i=>(i.size,i.bytes,i.zero))=some (1,1,some (.int .u8 (0:Int))):=by kernel_rfl
theorem in55:(prog.info? 55).map (fun i=>(i.size,i.bytes,i.zero))=some (3,48,some (.agg #[(.int .i64 (0:Int)),(.string (⟨#[]⟩:ByteArray)),(.slice none 0 0)])):=by kernel_rfl
theorem in58:(prog.info? 58).map (fun i=>(i.size,i.bytes,i.zero))=some (6,112,some (.agg #[(.slice none 0 0),(.slice none 0 0),(.int .i64 (0:Int)),(.int .i64 (0:Int)),(.slice none 0 0),(.slice none 0 0)])):=by kernel_rfl
theorem in67:(prog.info? 67).map (fun i=>(i.size,i.bytes,i.zero))=some (3,24,some (.agg #[(.int .i64 (0:Int)),(.int .i64 (0:Int)),(.int .i64 (0:Int))])):=by kernel_rfl
theorem in71:(prog.info? 71).map (fun i=>(i.size,i.bytes,i.zero))=some (5,40,some (.agg #[(.int .i64 (0:Int)),(.int .i64 (0:Int)),(.string (⟨#[]⟩:ByteArray)),(.bool false),(.bool false)])):=by kernel_rfl
theorem in76:(prog.info? 76).map (fun i=>(i.size,i.bytes,i.zero))=some (3,40,some (.agg #[(.int .i64 (0:Int)),(.string (⟨#[]⟩:ByteArray)),(.string (⟨#[]⟩:ByteArray))])):=by kernel_rfl
theorem in9:(prog.info? 9).map (fun i=>(i.size,i.bytes,i.zero))=some (1,16,some (.string (⟨#[]⟩:ByteArray))):=by kernel_rfl
theorem Q91:(prog.info? 111).map (fun i=>(i.size,i.zero))=some (18,some (.agg #[(.int .i64 (0:Int)),(.int .i64 (0:Int)),(.int .i64 (0:Int)),(.int .i64 (0:Int)),(.int .i64 (0:Int)),(.int .i64 (0:Int)),(.int .i64 (0:Int)),(.int .i64 (0:Int)),(.int .i64 (0:Int)),(.bool false),(.string (⟨#[]⟩:ByteArray)),(.string (⟨#[]⟩:ByteArray)),(.string (⟨#[]⟩:ByteArray)),(.string (⟨#[]⟩:ByteArray)),(.slice none 0 0),(.slice none 0 0),(.slice none 0 0),(.slice none 0 0)])):=by kernel_rfl
theorem iz3:(prog.info? 3).map (fun i=>(i.size,i.zero))=some (1,some (.int .i64 (0:Int))):=by kernel_rfl
theorem iz5:(prog.info? 5).map (fun i=>(i.size,i.zero))=some (1,some (.int .u8 (0:Int))):=by kernel_rfl
theorem iz55:(prog.info? 55).map (fun i=>(i.size,i.zero))=some (3,some (.agg #[(.int .i64 (0:Int)),(.string (⟨#[]⟩:ByteArray)),(.slice none 0 0)])):=by kernel_rfl
theorem iz56:(prog.info? 56).map (fun i=>(i.size,i.zero))=some (1,some (.slice none 0 0)):=by kernel_rfl
theorem iz58:(prog.info? 58).map (fun i=>(i.size,i.zero))=some (6,some (.agg #[(.slice none 0 0),(.slice none 0 0),(.int .i64 (0:Int)),(.int .i64 (0:Int)),(.slice none 0 0),(.slice none 0 0)])):=by kernel_rfl
theorem iz67:(prog.info? 67).map (fun i=>(i.size,i.zero))=some (3,some (.agg #[(.int .i64 (0:Int)),(.int .i64 (0:Int)),(.int .i64 (0:Int))])):=by kernel_rfl
theorem iz71:(prog.info? 71).map (fun i=>(i.size,i.zero))=some (5,some (.agg #[(.int .i64 (0:Int)),(.int .i64 (0:Int)),(.string (⟨#[]⟩:ByteArray)),(.bool false),(.bool false)])):=by kernel_rfl
theorem iz76:(prog.info? 76).map (fun i=>(i.size,i.zero))=some (3,some (.agg #[(.int .i64 (0:Int)),(.string (⟨#[]⟩:ByteArray)),(.string (⟨#[]⟩:ByteArray))])):=by kernel_rfl
theorem iz9:(prog.info? 9).map (fun i=>(i.size,i.zero))=some (1,some (.string (⟨#[]⟩:ByteArray))):=by kernel_rfl
theorem Q6F (v:Value) (xT:TypeId) (w:World):(Instr.typeAssert (.iface 0 v) xT 195 true).run prog w= .ok (.tuple #[.nilIface, .bool false]) w:=run_typeAssert_lacksB underlying195 (by kernel_rfl) (by kernel_rfl) v xT w
theorem QzF (v:Value) (xT:TypeId) (w:World):(Instr.typeAssert (.iface 0 v) xT 198 true).run prog w= .ok (.tuple #[.nilIface, .bool false]) w:=run_typeAssert_lacksB underlying198 (by kernel_rfl) (by kernel_rfl) v xT w
theorem QzG (v:Value) (xT:TypeId) (w:World):(Instr.typeAssert (.iface 0 v) xT 199 true).run prog w= .ok (.tuple #[.nilIface, .bool false]) w:=run_typeAssert_lacksB underlying199 (by kernel_rfl) (by kernel_rfl) v xT w
theorem Q16 (v:Value) (xT:TypeId) (w:World):(Instr.typeAssert (.iface 0 v) xT 204 true).run prog w= .ok (.tuple #[.nilIface, .bool false]) w:=run_typeAssert_lacksB underlying204 (by kernel_rfl) (by kernel_rfl) v xT w
theorem Q17 (v:Value) (xT:TypeId) (w:World):(Instr.typeAssert (.iface 114 v) xT 195 true).run prog w= .ok (.tuple #[.nilIface, .bool false]) w:=run_typeAssert_lacksB underlying195 (by kernel_rfl) (by kernel_rfl) v xT w
theorem Q18 (v:Value) (xT:TypeId) (w:World):(Instr.typeAssert (.iface 114 v) xT 204 true).run prog w= .ok (.tuple #[.nilIface, .bool false]) w:=run_typeAssert_lacksB underlying204 (by kernel_rfl) (by kernel_rfl) v xT w
theorem Q36 (v:Value) (xT:TypeId) (w:World):(Instr.typeAssert (.iface 34 v) xT 195 true).run prog w= .ok (.tuple #[.nilIface, .bool false]) w:=run_typeAssert_lacksB underlying195 (by kernel_rfl) (by kernel_rfl) v xT w
theorem Q0D (v:Value) (xT:TypeId) (w:World):(Instr.typeAssert (.iface 34 v) xT 198 true).run prog w= .ok (.tuple #[.nilIface, .bool false]) w:=run_typeAssert_lacksB underlying198 (by kernel_rfl) (by kernel_rfl) v xT w
theorem Q0E (v:Value) (xT:TypeId) (w:World):(Instr.typeAssert (.iface 34 v) xT 199 true).run prog w= .ok (.tuple #[.nilIface, .bool false]) w:=run_typeAssert_lacksB underlying199 (by kernel_rfl) (by kernel_rfl) v xT w
theorem Q37 (v:Value) (xT:TypeId) (w:World):(Instr.typeAssert (.iface 34 v) xT 204 true).run prog w= .ok (.tuple #[.nilIface, .bool false]) w:=run_typeAssert_lacksB underlying204 (by kernel_rfl) (by kernel_rfl) v xT w
theorem Qs6 (v:Value) (w:World):(method (QpA prog) 114 v "Unwrap").run prog w= .ok (175,v) w:=by kernel_rfl
theorem Q92 (p:Addr) (w:World):(Extern.ReflectliteValue.mk 114 p Extern.ReflectliteValue.flagAddr).run prog w= .ok (.agg #[(.pointer (some ⟨1,114,none⟩)), .pointer (some p), .int .u64 409]) w:=by kernel_rfl
theorem mk34 (p:Addr) (w:World):(Extern.ReflectliteValue.mk 34 p Extern.ReflectliteValue.flagAddr).run prog w= .ok (.agg #[(.pointer (some ⟨1,34,none⟩)), .pointer (some p), .int .u64 386]) w:=by kernel_rfl
theorem QfP (h:Value) (w:World):(method (QpA prog) 193 (.agg #[h]) "AssignableTo").run prog w= .ok (180, .agg #[h]) w:=by kernel_rfl
theorem QxA (h:Value) (w:World):(method (QpA prog) 193 (.agg #[h]) "Comparable").run prog w= .ok (181, .agg #[h]) w:=by kernel_rfl
theorem Q19 (h:Value) (w:World):(method (QpA prog) 193 (.agg #[h]) "Elem").run prog w= .ok (182, .agg #[h]) w:=by kernel_rfl
theorem QrJ (h:Value) (w:World):(method (QpA prog) 193 (.agg #[h]) "Implements").run prog w= .ok (183, .agg #[h]) w:=by kernel_rfl
theorem QxB (h:Value) (w:World):(method (QpA prog) 193 (.agg #[h]) "Kind").run prog w= .ok (169,h) w:=by kernel_rfl
theorem QnY (w:World):((Extern.ReflectliteType.relation "AssignableTo" Extern.ReflectliteType.assignableTo) #[.agg #[(.pointer (some ⟨1,0,none⟩))],(.iface 193 (.agg #[.pointer (some ⟨1,114,none⟩)]))]).run prog w= .ok (.bool false) w:=by kernel_rfl
theorem Qo4 (w:World):((Extern.ReflectliteType.relation "AssignableTo" Extern.ReflectliteType.assignableTo) #[.agg #[(.pointer (some ⟨1,0,none⟩))],(.iface 193 (.agg #[.pointer (some ⟨1,34,none⟩)]))]).run prog w= .ok (.bool false) w:=by kernel_rfl
theorem QmM (w:World):((Extern.ReflectliteType.relation "AssignableTo" Extern.ReflectliteType.assignableTo) #[.agg #[(.pointer (some ⟨1,114,none⟩))],(.iface 193 (.agg #[.pointer (some ⟨1,114,none⟩)]))]).run prog w= .ok (.bool true) w:=by kernel_rfl
theorem QnA (w:World):((Extern.ReflectliteType.relation "AssignableTo" Extern.ReflectliteType.assignableTo) #[.agg #[(.pointer (some ⟨1,114,none⟩))],(.iface 193 (.agg #[.pointer (some ⟨1,34,none⟩)]))]).run prog w= .ok (.bool false) w:=by kernel_rfl
theorem QnB (w:World):((Extern.ReflectliteType.relation "AssignableTo" Extern.ReflectliteType.assignableTo) #[.agg #[(.pointer (some ⟨1,34,none⟩))],(.iface 193 (.agg #[.pointer (some ⟨1,114,none⟩)]))]).run prog w= .ok (.bool false) w:=by kernel_rfl
theorem QnZ (w:World):((Extern.ReflectliteType.relation "AssignableTo" Extern.ReflectliteType.assignableTo) #[.agg #[(.pointer (some ⟨1,34,none⟩))],(.iface 193 (.agg #[.pointer (some ⟨1,34,none⟩)]))]).run prog w= .ok (.bool true) w:=by kernel_rfl
theorem Qt5 (w:World):((Extern.ReflectliteType.method fun t=>do Extern.Rtype.noPackHeld "Comparable" t;pure (.bool (←typeInfo t).comparable)) #[.agg #[(.pointer (some ⟨1,34,none⟩))]]).run prog w= .ok (.bool true) w:=by kernel_rfl
theorem QzH (w:World):((Extern.ReflectliteType.method Extern.ReflectliteType.elem) #[.agg #[(.pointer (some ⟨1,116,none⟩))]]).run prog w= .ok (.iface 193 (.agg #[.pointer (some ⟨1,114,none⟩)])) w:=by kernel_rfl
theorem QzI (w:World):((Extern.ReflectliteType.method Extern.ReflectliteType.elem) #[.agg #[(.pointer (some ⟨1,117,none⟩))]]).run prog w= .ok (.iface 193 (.agg #[.pointer (some ⟨1,34,none⟩)])) w:=by kernel_rfl
theorem Qo5 (w:World):((Extern.ReflectliteType.relation "Implements" Extern.ReflectliteType.implements_) #[.agg #[(.pointer (some ⟨1,114,none⟩))],(.iface 193 (.agg #[.pointer (some ⟨1,32,none⟩)]))]).run prog w= .ok (.bool true) w:=by kernel_rfl
theorem Qp7 (w:World):((Extern.ReflectliteType.relation "Implements" Extern.ReflectliteType.implements_) #[.agg #[(.pointer (some ⟨1,34,none⟩))],(.iface 193 (.agg #[.pointer (some ⟨1,32,none⟩)]))]).run prog w= .ok (.bool true) w:=by kernel_rfl
theorem QzJ (w:World):((Extern.ReflectliteType.abiMethod fun t=>do pure (.int .u8 (←Extern.Rtype.kind t))) #[(.pointer (some ⟨1,114,none⟩))]).run prog w= .ok (.int .u8 (25:Int)) w:=by kernel_rfl
theorem QzK (w:World):((Extern.ReflectliteType.abiMethod fun t=>do pure (.int .u8 (←Extern.Rtype.kind t))) #[(.pointer (some ⟨1,116,none⟩))]).run prog w= .ok (.int .u8 (22:Int)) w:=by kernel_rfl
theorem QzL (w:World):((Extern.ReflectliteType.abiMethod fun t=>do pure (.int .u8 (←Extern.Rtype.kind t))) #[(.pointer (some ⟨1,117,none⟩))]).run prog w= .ok (.int .u8 (22:Int)) w:=by kernel_rfl
theorem Q1B (w:World):((Extern.ReflectliteType.abiMethod fun t=>do pure (.int .u8 (←Extern.Rtype.kind t))) #[(.pointer (some ⟨1,34,none⟩))]).run prog w= .ok (.int .u8 (2:Int)) w:=by kernel_rfl
theorem Q7O:QcX prog 116=true:=by kernel_rfl
theorem Q7P:QcX prog 117=true:=by kernel_rfl
theorem Q38:QcX prog 128=true:=by kernel_rfl
theorem Q7Q:QcX prog 148=true:=by kernel_rfl
theorem Q93:QcX prog 212=true:=by kernel_rfl
theorem Q94:QcX prog 216=true:=by kernel_rfl
theorem pl22:QcX prog 22=true:=by kernel_rfl
theorem pl23:QcX prog 23=true:=by kernel_rfl
theorem pl24:QcX prog 24=true:=by kernel_rfl
theorem pl25:QcX prog 25=true:=by kernel_rfl
theorem pl3:QcX prog 3=true:=by kernel_rfl
theorem pl32:QcX prog 32=true:=by kernel_rfl
theorem pl34:QcX prog 34=true:=by kernel_rfl
theorem pl38:QcX prog 38=true:=by kernel_rfl
theorem pl4:QcX prog 4=true:=by kernel_rfl
theorem pl5:QcX prog 5=true:=by kernel_rfl
theorem pl53:QcX prog 53=true:=by kernel_rfl
theorem pl56:QcX prog 56=true:=by kernel_rfl
theorem pl77:QcX prog 77=true:=by kernel_rfl
theorem pl80:QcX prog 80=true:=by kernel_rfl
theorem pl82:QcX prog 82=true:=by kernel_rfl
theorem pl84:QcX prog 84=true:=by kernel_rfl
theorem pl87:QcX prog 87=true:=by kernel_rfl
theorem pl9:QcX prog 9=true:=by kernel_rfl
theorem Q2A (a:Addr) (w:World):(Extern.ReflectliteValue.parts (.agg #[(.pointer (some ⟨1,114,none⟩)), .pointer (some a), .int .u64 153])).run prog w= .ok (some (114,a,153)) w:=by kernel_rfl
theorem Q2B (a:Addr) (w:World):(Extern.ReflectliteValue.parts (.agg #[(.pointer (some ⟨1,114,none⟩)), .pointer (some a), .int .u64 409])).run prog w= .ok (some (114,a,409)) w:=by kernel_rfl
theorem QyC (a:Addr) (w:World):(Extern.ReflectliteValue.parts (.agg #[(.pointer (some ⟨1,116,none⟩)), .pointer (some a), .int .u64 150])).run prog w= .ok (some (116,a,150)) w:=by kernel_rfl
theorem QyD (a:Addr) (w:World):(Extern.ReflectliteValue.parts (.agg #[(.pointer (some ⟨1,117,none⟩)), .pointer (some a), .int .u64 150])).run prog w= .ok (some (117,a,150)) w:=by kernel_rfl
theorem Q39 (a:Addr) (w:World):(Extern.ReflectliteValue.parts (.agg #[(.pointer (some ⟨1,34,none⟩)), .pointer (some a), .int .u64 130])).run prog w= .ok (some (34,a,130)) w:=by kernel_rfl
theorem Q4A (a:Addr) (w:World):(Extern.ReflectliteValue.parts (.agg #[(.pointer (some ⟨1,34,none⟩)), .pointer (some a), .int .u64 386])).run prog w= .ok (some (34,a,386)) w:=by kernel_rfl
theorem QrK:(prog.info? 111).map (·.size)=some 18:=by kernel_rfl
theorem Q7R:(prog.info? 114).map (·.size)=some 3:=by kernel_rfl
theorem Q7S:(prog.info? 128).map (·.size)=some 1:=by kernel_rfl
theorem QiQ:(prog.info? 144).map (·.size)=some 3:=by kernel_rfl
theorem QvY:(prog.info? 154).map (·.size)=some 3:=by kernel_rfl
theorem sz22:(prog.info? 22).map (·.size)=some 1:=by kernel_rfl
theorem sz23:(prog.info? 23).map (·.size)=some 1:=by kernel_rfl
theorem sz24:(prog.info? 24).map (·.size)=some 1:=by kernel_rfl
theorem sz25:(prog.info? 25).map (·.size)=some 1:=by kernel_rfl
theorem sz27:(prog.info? 27).map (·.size)=some 5:=by kernel_rfl
theorem sz3:(prog.info? 3).map (·.size)=some 1:=by kernel_rfl
theorem sz32:(prog.info? 32).map (·.size)=some 1:=by kernel_rfl
theorem sz34:(prog.info? 34).map (·.size)=some 1:=by kernel_rfl
theorem sz36:(prog.info? 36).map (·.size)=some 3:=by kernel_rfl
theorem sz38:(prog.info? 38).map (·.size)=some 1:=by kernel_rfl
theorem sz4:(prog.info? 4).map (·.size)=some 1:=by kernel_rfl
theorem sz5:(prog.info? 5).map (·.size)=some 1:=by kernel_rfl
theorem sz53:(prog.info? 53).map (·.size)=some 1:=by kernel_rfl
theorem sz55:(prog.info? 55).map (·.size)=some 3:=by kernel_rfl
theorem sz56:(prog.info? 56).map (·.size)=some 1:=by kernel_rfl
theorem sz58:(prog.info? 58).map (·.size)=some 6:=by kernel_rfl
theorem sz67:(prog.info? 67).map (·.size)=some 3:=by kernel_rfl
theorem sz68:(prog.info? 68).map (·.size)=some 2:=by kernel_rfl
theorem sz71:(prog.info? 71).map (·.size)=some 5:=by kernel_rfl
theorem sz76:(prog.info? 76).map (·.size)=some 3:=by kernel_rfl
theorem sz77:(prog.info? 77).map (·.size)=some 1:=by kernel_rfl
theorem sz80:(prog.info? 80).map (·.size)=some 1:=by kernel_rfl
theorem sz82:(prog.info? 82).map (·.size)=some 1:=by kernel_rfl
theorem sz84:(prog.info? 84).map (·.size)=some 1:=by kernel_rfl
theorem sz87:(prog.info? 87).map (·.size)=some 1:=by kernel_rfl
theorem sz9:(prog.info? 9).map (·.size)=some 1:=by kernel_rfl
theorem ty0 (v:Value) (w:World):(Extern.ReflectliteType.typeOf #[.iface 0 v]).run prog w= .ok (.iface 193 (.agg #[(.pointer (some ⟨1,0,none⟩))])) w:=by kernel_rfl
theorem Q7T (v:Value) (w:World):(Extern.ReflectliteType.typeOf #[.iface 114 v]).run prog w= .ok (.iface 193 (.agg #[(.pointer (some ⟨1,114,none⟩))])) w:=by kernel_rfl
theorem ty34 (v:Value) (w:World):(Extern.ReflectliteType.typeOf #[.iface 34 v]).run prog w= .ok (.iface 193 (.agg #[(.pointer (some ⟨1,34,none⟩))])) w:=by kernel_rfl
theorem Q7U (w:World):(Extern.ReflectliteType.typeOf #[.nilIface]).run prog w= .ok .nilIface w:=by kernel_rfl
theorem Qn0:(prog.underlying 128).isSome=true:=by kernel_rfl
theorem Q7V:(prog.underlying 172).isSome=true:=by kernel_rfl
theorem us3:(prog.underlying 3).isSome=true:=by kernel_rfl
theorem us5:(prog.underlying 5).isSome=true:=by kernel_rfl
theorem Q95 (o:ByteArray) (n:Int) (e:Value) (w:World):(Extern.ReflectliteValue.unpack (.iface 114 (.agg #[.string o, .int .i64 n,e]))).run prog w= .ok (.agg #[(.pointer (some ⟨1,114,none⟩)), .pointer (some ⟨w.heap.size,0,none⟩), .int .u64 153]) (w.alloc (.cells #[.string o, .int .i64 n,e] 114)):=by kernel_rfl
theorem Q96 (p:Addr) (w:World):(Extern.ReflectliteValue.unpack (.iface 116 (.pointer (some p)))).run prog w= .ok (.agg #[(.pointer (some ⟨1,116,none⟩)), .pointer (some ⟨w.heap.size,0,none⟩), .int .u64 150]) (w.alloc (.cells #[.pointer (some p)] 116)):=by kernel_rfl
theorem Q97 (p:Addr) (w:World):(Extern.ReflectliteValue.unpack (.iface 117 (.pointer (some p)))).run prog w= .ok (.agg #[(.pointer (some ⟨1,117,none⟩)), .pointer (some ⟨w.heap.size,0,none⟩), .int .u64 150]) (w.alloc (.cells #[.pointer (some p)] 117)):=by kernel_rfl
theorem vo34 (n:Int) (w:World):(Extern.ReflectliteValue.unpack (.iface 34 (.int .i64 n))).run prog w= .ok (.agg #[(.pointer (some ⟨1,34,none⟩)), .pointer (some ⟨w.heap.size,0,none⟩), .int .u64 130]) (w.alloc (.cells #[.int .i64 n] 34)):=by kernel_rfl
theorem Q2C (a:Addr) (w:World):((Extern.ReflectliteValue.methodAny (Extern.ReflectliteValue.valueError "reflectlite.Value.Type" 0) (fun t _ _ _=>Extern.ReflectliteType.toType t)) #[.agg #[(.pointer (some ⟨1,116,none⟩)), .pointer (some a), .int .u64 150]]).run prog w= .ok (.iface 193 (.agg #[(.pointer (some ⟨1,116,none⟩))])) w:=by kernel_rfl
theorem Q2D (a:Addr) (w:World):((Extern.ReflectliteValue.methodAny (Extern.ReflectliteValue.valueError "reflectlite.Value.Type" 0) (fun t _ _ _=>Extern.ReflectliteType.toType t)) #[.agg #[(.pointer (some ⟨1,117,none⟩)), .pointer (some a), .int .u64 150]]).run prog w= .ok (.iface 193 (.agg #[(.pointer (some ⟨1,117,none⟩))])) w:=by kernel_rfl
theorem Q4B:QmY prog 101 (fun args=>Extern.ReflectliteValue.unpack (args.getD 0 (.tuple #[]))):=fun args w=>run_callFunc_extern (e:=(fun args=>Extern.ReflectliteValue.unpack (args.getD 0 (.tuple #[])))) func101 (by kernel_rfl) (by kernel_rfl) (by kernel_rfl) (by kernel_rfl) args w
theorem Q7W:QmY prog 102 (Extern.ReflectliteValue.methodAny (Extern.ReflectliteValue.valueError "reflectlite.Value.Type" 0) (fun t _ _ _=>Extern.ReflectliteType.toType t)):=fun args w=>run_callFunc_extern (e:=(Extern.ReflectliteValue.methodAny (Extern.ReflectliteValue.valueError "reflectlite.Value.Type" 0) (fun t _ _ _=>Extern.ReflectliteType.toType t))) func102 (by kernel_rfl) (by kernel_rfl) (by kernel_rfl) (by kernel_rfl) args w
theorem Q7X:QmY prog 103 (Extern.ReflectliteValue.method (Extern.ReflectliteValue.valueError "reflectlite.Value.IsNil" 0) Extern.ReflectliteValue.isNil):=fun args w=>run_callFunc_extern (e:=(Extern.ReflectliteValue.method (Extern.ReflectliteValue.valueError "reflectlite.Value.IsNil" 0) Extern.ReflectliteValue.isNil)) func103 (by kernel_rfl) (by kernel_rfl) (by kernel_rfl) (by kernel_rfl) args w
theorem Q7Y:QmY prog 137 (Extern.ReflectliteValue.method (Extern.ReflectliteValue.valueError "reflectlite.Value.Elem" 0) Extern.ReflectliteValue.elem):=fun args w=>run_callFunc_extern (e:=(Extern.ReflectliteValue.method (Extern.ReflectliteValue.valueError "reflectlite.Value.Elem" 0) Extern.ReflectliteValue.elem)) func137 (by kernel_rfl) (by kernel_rfl) (by kernel_rfl) (by kernel_rfl) args w
theorem Q7Z:QmY prog 138 Extern.ReflectliteValue.set:=fun args w=>run_callFunc_extern (e:=Extern.ReflectliteValue.set) func138 (by kernel_rfl) (by kernel_rfl) (by kernel_rfl) (by kernel_rfl) args w
theorem Q4C:QmY prog 169 (Extern.ReflectliteType.abiMethod fun t=>do pure (.int .u8 (←Extern.Rtype.kind t))):=fun args w=>run_callFunc_extern (e:=(Extern.ReflectliteType.abiMethod fun t=>do pure (.int .u8 (←Extern.Rtype.kind t)))) func169 (by kernel_rfl) (by kernel_rfl) (by kernel_rfl) (by kernel_rfl) args w
theorem Q1C:QmY prog 180 (Extern.ReflectliteType.relation "AssignableTo" Extern.ReflectliteType.assignableTo):=fun args w=>run_callFunc_extern (e:=(Extern.ReflectliteType.relation "AssignableTo" Extern.ReflectliteType.assignableTo)) func180 (by kernel_rfl) (by kernel_rfl) (by kernel_rfl) (by kernel_rfl) args w
theorem Q98:QmY prog 181 (Extern.ReflectliteType.method fun t=>do Extern.Rtype.noPackHeld "Comparable" t;pure (.bool (←typeInfo t).comparable)):=fun args w=>run_callFunc_extern (e:=(Extern.ReflectliteType.method fun t=>do Extern.Rtype.noPackHeld "Comparable" t;pure (.bool (←typeInfo t).comparable))) func181 (by kernel_rfl) (by kernel_rfl) (by kernel_rfl) (by kernel_rfl) args w
theorem Q70:QmY prog 182 (Extern.ReflectliteType.method Extern.ReflectliteType.elem):=fun args w=>run_callFunc_extern (e:=(Extern.ReflectliteType.method Extern.ReflectliteType.elem)) func182 (by kernel_rfl) (by kernel_rfl) (by kernel_rfl) (by kernel_rfl) args w
theorem Q71:QmY prog 183 (Extern.ReflectliteType.relation "Implements" Extern.ReflectliteType.implements_):=fun args w=>run_callFunc_extern (e:=(Extern.ReflectliteType.relation "Implements" Extern.ReflectliteType.implements_)) func183 (by kernel_rfl) (by kernel_rfl) (by kernel_rfl) (by kernel_rfl) args w
theorem xt99:QmY prog 99 Extern.ReflectliteType.typeOf:=fun args w=>run_callFunc_extern (e:=Extern.ReflectliteType.typeOf) func99 (by kernel_rfl) (by kernel_rfl) (by kernel_rfl) (by kernel_rfl) args w
theorem Q1D:(prog.info? 111).map (·.zero)=some (some (.agg #[(.int .i64 (0:Int)),(.int .i64 (0:Int)),(.int .i64 (0:Int)),(.int .i64 (0:Int)),(.int .i64 (0:Int)),(.int .i64 (0:Int)),(.int .i64 (0:Int)),(.int .i64 (0:Int)),(.int .i64 (0:Int)),(.bool false),(.string (⟨#[]⟩:ByteArray)),(.string (⟨#[]⟩:ByteArray)),(.string (⟨#[]⟩:ByteArray)),(.string (⟨#[]⟩:ByteArray)),(.slice none 0 0),(.slice none 0 0),(.slice none 0 0),(.slice none 0 0)])):=by kernel_rfl
theorem Q4D:(prog.info? 114).map (·.zero)=some (some (.agg #[(.string (⟨#[]⟩:ByteArray)),(.int .i64 (0:Int)),(.nilIface)])):=by kernel_rfl
theorem Q99:(prog.info? 128).map (·.zero)=some (some (.int .u64 (0:Int))):=by kernel_rfl
theorem JaA:(prog.info? 130).map (·.zero)=some (some (.agg #[(.slice none 0 0),(.int .i64 (0:Int)),(.nilIface)])):=by kernel_rfl
theorem Qn1:(prog.info? 144).map (·.zero)=some (some (.agg #[(.string (⟨#[]⟩:ByteArray)),(.int .i64 (0:Int)),(.int .i64 (0:Int))])):=by kernel_rfl
theorem Q72:(prog.info? 154).map (·.zero)=some (some (.agg #[(.pointer none),(.pointer none),(.int .u64 (0:Int))])):=by kernel_rfl
theorem ze27:(prog.info? 27).map (·.zero)=some (some (.agg #[(.slice none 0 0),(.slice none 0 0),(.slice none 0 0),(.slice none 0 0),(.int .i64 (0:Int))])):=by kernel_rfl
theorem ze3:(prog.info? 3).map (·.zero)=some (some (.int .i64 (0:Int))):=by kernel_rfl
theorem ze34:(prog.info? 34).map (·.zero)=some (some (.int .i64 (0:Int))):=by kernel_rfl
theorem ze36:(prog.info? 36).map (·.zero)=some (some (.agg #[(.string (⟨#[]⟩:ByteArray)),(.int .i64 (0:Int)),(.int .i64 (0:Int))])):=by kernel_rfl
theorem ze38:(prog.info? 38).map (·.zero)=some (some (.slice none 0 0)):=by kernel_rfl
theorem ze55:(prog.info? 55).map (·.zero)=some (some (.agg #[(.int .i64 (0:Int)),(.string (⟨#[]⟩:ByteArray)),(.slice none 0 0)])):=by kernel_rfl
theorem ze58:(prog.info? 58).map (·.zero)=some (some (.agg #[(.slice none 0 0),(.slice none 0 0),(.int .i64 (0:Int)),(.int .i64 (0:Int)),(.slice none 0 0),(.slice none 0 0)])):=by kernel_rfl
theorem ze67:(prog.info? 67).map (·.zero)=some (some (.agg #[(.int .i64 (0:Int)),(.int .i64 (0:Int)),(.int .i64 (0:Int))])):=by kernel_rfl
theorem ze68:(prog.info? 68).map (·.zero)=some (some (.agg #[(.int .i64 (0:Int)),(.int .i64 (0:Int))])):=by kernel_rfl
theorem ze71:(prog.info? 71).map (·.zero)=some (some (.agg #[(.int .i64 (0:Int)),(.int .i64 (0:Int)),(.string (⟨#[]⟩:ByteArray)),(.bool false),(.bool false)])):=by kernel_rfl
theorem ze76:(prog.info? 76).map (·.zero)=some (some (.agg #[(.int .i64 (0:Int)),(.string (⟨#[]⟩:ByteArray)),(.string (⟨#[]⟩:ByteArray))])):=by kernel_rfl
theorem ze77:(prog.info? 77).map (·.zero)=some (some (.pointer none)):=by kernel_rfl
theorem ze80:(prog.info? 80).map (·.zero)=some (some .nilFunc):=by kernel_rfl
theorem ze82:(prog.info? 82).map (·.zero)=some (some .nilFunc):=by kernel_rfl
theorem ze84:(prog.info? 84).map (·.zero)=some (some .nilFunc):=by kernel_rfl
theorem ze87:(prog.info? 87).map (·.zero)=some (some .nilFunc):=by kernel_rfl
theorem JaB:(prog.info? 195).map (·.zero)=some (some .nilIface):=by kernel_rfl
theorem JaC:(prog.info? 198).map (·.zero)=some (some .nilIface):=by kernel_rfl
theorem JaD:(prog.info? 199).map (·.zero)=some (some .nilIface):=by kernel_rfl
theorem QdC:prog.follows .mixedOrders=true:=by kernel_rfl
abbrev Q4E:QaL:=⟨(⟨#[]⟩:ByteArray),(0:Int),(0:Int)⟩
abbrev Q6G:QaK:=⟨(4:Int),(2:Int),(1:Int),(0:Int),(0:Int),(0:Int),(0:Int),(0:Int),(0:Int),false,(⟨#[]⟩:ByteArray),(⟨#[]⟩:ByteArray),(⟨#[]⟩:ByteArray),(⟨#[]⟩:ByteArray),[],[],[],[]⟩
abbrev Q6H:QaK:=⟨(4:Int),(1:Int),(1:Int),(0:Int),(0:Int),(0:Int),(0:Int),(0:Int),(0:Int),false,(⟨#[]⟩:ByteArray),(⟨#[]⟩:ByteArray),(⟨#[]⟩:ByteArray),(⟨#[]⟩:ByteArray),[],[],[],[]⟩
abbrev Q6I:QaK:=⟨(2:Int),(2:Int),(1:Int),(0:Int),(0:Int),(0:Int),(0:Int),(0:Int),(0:Int),false,(⟨#[]⟩:ByteArray),(⟨#[]⟩:ByteArray),(⟨#[]⟩:ByteArray),(⟨#[98]⟩:ByteArray),[],[],[],[]⟩
abbrev Q6J:QaK:=⟨(2:Int),(1:Int),(1:Int),(0:Int),(0:Int),(0:Int),(0:Int),(0:Int),(0:Int),false,(⟨#[]⟩:ByteArray),(⟨#[]⟩:ByteArray),(⟨#[]⟩:ByteArray),(⟨#[97]⟩:ByteArray),[],[],[],[]⟩
abbrev Q6K:QaK:=⟨(7:Int),(0:Int),(0:Int),(1:Int),(0:Int),(0:Int),(0:Int),(0:Int),(0:Int),false,(⟨#[116]⟩:ByteArray),(⟨#[]⟩:ByteArray),(⟨#[]⟩:ByteArray),(⟨#[]⟩:ByteArray),[],[],[],[]⟩
abbrev Q6L:QaK:=⟨(8:Int),(0:Int),(0:Int),(1:Int),(0:Int),(1:Int),(0:Int),(0:Int),(0:Int),false,(⟨#[]⟩:ByteArray),(⟨#[]⟩:ByteArray),(⟨#[]⟩:ByteArray),(⟨#[]⟩:ByteArray),[(1:Int),(2:Int)],[(1:Int),(2:Int)],[],[]⟩
end Go.Proofs.YtpcbipcdfccnnaaGreatDoor.G
