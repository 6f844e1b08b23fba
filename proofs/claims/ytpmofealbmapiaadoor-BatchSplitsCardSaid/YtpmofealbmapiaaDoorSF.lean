/- Closed facts on the program's types. Printed by a program of the session (gen). -/
import Derived.Test.YtpmofealbmapiaaDoorST
import Derived.Test.YtpmofealbmapiaaDoorProg
set_option linter.unusedVariables false
set_option linter.unusedSimpArgs false
set_option maxHeartbeats 8000000
set_option maxRecDepth 100000
namespace Go.Proofs.YtpmofealbmapiaaDoor.G
open Go Go.KK
open PO EO IntKind Sum Tryd
def Env (M:IM):Prop:=M.cell ⟨0,0,none⟩=some (.iface 103 (.agg #[(.pointer (some ⟨1,40,none⟩))]))
theorem Env.mono {M M':IM}(h:Env M) (hle:M.le M'):Env M':=hle.cell h
theorem ag120:aggB prog 120=true:=by kernel_rfl
theorem ag31:aggB prog 31=true:=by kernel_rfl
theorem ag36:aggB prog 36=true:=by kernel_rfl
theorem ag82:aggB prog 82=true:=by kernel_rfl
theorem ag84:aggB prog 84=true:=by kernel_rfl
theorem cc115:prog.concrete 115=true:=by kernel_rfl
theorem cc47:prog.concrete 47=true:=by kernel_rfl
theorem cc74:prog.concrete 74=true:=by kernel_rfl
theorem cm47:(prog.info? 47).map (·.comparable)=some true:=by kernel_rfl
theorem co10:callOk prog 10=true:=by kernel_rfl
theorem co11:callOk prog 11=true:=by kernel_rfl
theorem co12:callOk prog 12=true:=by kernel_rfl
theorem co13:callOk prog 13=true:=by kernel_rfl
theorem co14:callOk prog 14=true:=by kernel_rfl
theorem co15:callOk prog 15=true:=by kernel_rfl
theorem co16:callOk prog 16=true:=by kernel_rfl
theorem co17:callOk prog 17=true:=by kernel_rfl
theorem co18:callOk prog 18=true:=by kernel_rfl
theorem co19:callOk prog 19=true:=by kernel_rfl
theorem co20:callOk prog 20=true:=by kernel_rfl
theorem co21:callOk prog 21=true:=by kernel_rfl
theorem co22:callOk prog 22=true:=by kernel_rfl
theorem co23:callOk prog 23=true:=by kernel_rfl
theorem co24:callOk prog 24=true:=by kernel_rfl
theorem co25:callOk prog 25=true:=by kernel_rfl
theorem co26:callOk prog 26=true:=by kernel_rfl
theorem co27:callOk prog 27=true:=by kernel_rfl
theorem co28:callOk prog 28=true:=by kernel_rfl
theorem co29:callOk prog 29=true:=by kernel_rfl
theorem co30:callOk prog 30=true:=by kernel_rfl
theorem co31:callOk prog 31=true:=by kernel_rfl
theorem co32:callOk prog 32=true:=by kernel_rfl
theorem co33:callOk prog 33=true:=by kernel_rfl
theorem co34:callOk prog 34=true:=by kernel_rfl
theorem co35:callOk prog 35=true:=by kernel_rfl
theorem co36:callOk prog 36=true:=by kernel_rfl
theorem co37:callOk prog 37=true:=by kernel_rfl
theorem co38:callOk prog 38=true:=by kernel_rfl
theorem co39:callOk prog 39=true:=by kernel_rfl
theorem co4:callOk prog 4=true:=by kernel_rfl
theorem co40:callOk prog 40=true:=by kernel_rfl
theorem co41:callOk prog 41=true:=by kernel_rfl
theorem co42:callOk prog 42=true:=by kernel_rfl
theorem co43:callOk prog 43=true:=by kernel_rfl
theorem co44:callOk prog 44=true:=by kernel_rfl
theorem co45:callOk prog 45=true:=by kernel_rfl
theorem co46:callOk prog 46=true:=by kernel_rfl
theorem co47:callOk prog 47=true:=by kernel_rfl
theorem co48:callOk prog 48=true:=by kernel_rfl
theorem co5:callOk prog 5=true:=by kernel_rfl
theorem co50:callOk prog 50=true:=by kernel_rfl
theorem co51:callOk prog 51=true:=by kernel_rfl
theorem co52:callOk prog 52=true:=by kernel_rfl
theorem co53:callOk prog 53=true:=by kernel_rfl
theorem co54:callOk prog 54=true:=by kernel_rfl
theorem co55:callOk prog 55=true:=by kernel_rfl
theorem co56:callOk prog 56=true:=by kernel_rfl
theorem co57:callOk prog 57=true:=by kernel_rfl
theorem co58:callOk prog 58=true:=by kernel_rfl
theorem co59:callOk prog 59=true:=by kernel_rfl
theorem co6:callOk prog 6=true:=by kernel_rfl
theorem co60:callOk prog 60=true:=by kernel_rfl
theorem co61:callOk prog 61=true:=by kernel_rfl
theorem co62:callOk prog 62=true:=by kernel_rfl
theorem co63:callOk prog 63=true:=by kernel_rfl
theorem co64:callOk prog 64=true:=by kernel_rfl
theorem co65:callOk prog 65=true:=by kernel_rfl
theorem co66:callOk prog 66=true:=by kernel_rfl
theorem co67:callOk prog 67=true:=by kernel_rfl
theorem co68:callOk prog 68=true:=by kernel_rfl
theorem co69:callOk prog 69=true:=by kernel_rfl
theorem co7:callOk prog 7=true:=by kernel_rfl
theorem co70:callOk prog 70=true:=by kernel_rfl
theorem co74:callOk prog 74=true:=by kernel_rfl
theorem co75:callOk prog 75=true:=by kernel_rfl
theorem co8:callOk prog 8=true:=by kernel_rfl
theorem co9:callOk prog 9=true:=by kernel_rfl
theorem co97:callOk prog 97=true:=by kernel_rfl
theorem da47 (w:World):(Extern.Rtype.directlyAssignable 47 47).run prog w= .ok true w:=by kernel_rfl
theorem eg82:prog.eqGuardType prog.depth 82=false:=by kernel_rfl
theorem eg84:prog.eqGuardType prog.depth 84=false:=by kernel_rfl
theorem el115 (w:World):(Extern.Rtype.elem? 115).run prog w= .ok (some 47) w:=by kernel_rfl
theorem fo31_0:fldOff prog 31 0=some 0:=by kernel_rfl
theorem fo31_1:fldOff prog 31 1=some 1:=by kernel_rfl
theorem fo31_2:fldOff prog 31 2=some 2:=by kernel_rfl
theorem fo36_0:fldOff prog 36 0=some 0:=by kernel_rfl
theorem fo36_1:fldOff prog 36 1=some 1:=by kernel_rfl
theorem fo36_10:fldOff prog 36 10=some 10:=by kernel_rfl
theorem fo36_11:fldOff prog 36 11=some 11:=by kernel_rfl
theorem fo36_12:fldOff prog 36 12=some 12:=by kernel_rfl
theorem fo36_13:fldOff prog 36 13=some 13:=by kernel_rfl
theorem fo36_14:fldOff prog 36 14=some 14:=by kernel_rfl
theorem fo36_15:fldOff prog 36 15=some 15:=by kernel_rfl
theorem fo36_16:fldOff prog 36 16=some 16:=by kernel_rfl
theorem fo36_17:fldOff prog 36 17=some 17:=by kernel_rfl
theorem fo36_2:fldOff prog 36 2=some 2:=by kernel_rfl
theorem fo36_3:fldOff prog 36 3=some 3:=by kernel_rfl
theorem fo36_4:fldOff prog 36 4=some 4:=by kernel_rfl
theorem fo36_5:fldOff prog 36 5=some 5:=by kernel_rfl
theorem fo36_6:fldOff prog 36 6=some 6:=by kernel_rfl
theorem fo36_7:fldOff prog 36 7=some 7:=by kernel_rfl
theorem fo36_8:fldOff prog 36 8=some 8:=by kernel_rfl
theorem fo36_9:fldOff prog 36 9=some 9:=by kernel_rfl
theorem fo74_2:fldOff prog 74 2=some 2:=by kernel_rfl
theorem fo76_0:fldOff prog 76 0=some 0:=by kernel_rfl
theorem fo76_1:fldOff prog 76 1=some 1:=by kernel_rfl
theorem fo76_2:fldOff prog 76 2=some 2:=by kernel_rfl
theorem fp31:fldPlace prog 31=some [(0,1),(1,1),(2,1)]:=by kernel_rfl
theorem fp36:fldPlace prog 36=some [(0,1),(1,1),(2,1),(3,1),(4,1),(5,1),(6,1),(7,1),(8,1),(9,1),(10,1),(11,1),(12,1),(13,1),(14,1),(15,1),(16,1),(17,1)]:=by kernel_rfl
theorem fp74:fldPlace prog 74=some [(0,1),(1,1),(2,1)]:=by kernel_rfl
theorem fp76:fldPlace prog 76=some [(0,1),(1,1),(2,1)]:=by kernel_rfl
theorem ha74_108 (v:Value) (xT:TypeId) (w:World):(Instr.typeAssert (.iface 74 v) xT 108 true).run prog w= .ok (.tuple #[.iface 74 v, .bool true]) w:=run_typeAssert_hasB underlying108 (by kernel_rfl) v xT w
theorem in3:(prog.info? 3).map (fun i=>(i.size,i.bytes,i.zero))=some (1,8,some (.int .i64 (0:Int))):=by kernel_rfl
theorem in31:(prog.info? 31).map (fun i=>(i.size,i.bytes,i.zero))=some (3,40,some (.agg #[(.int .i64 (0:Int)),(.int .i64 (0:Int)),(.slice none 0 0)])):=by kernel_rfl
theorem in36:(prog.info? 36).map (fun i=>(i.size,i.bytes,i.zero))=some (18,240,some (.agg #[(.int .i64 (0:Int)),(.int .i64 (0:Int)),(.int .i64 (0:Int)),(.int .i64 (0:Int)),(.int .i64 (0:Int)),(.int .i64 (0:Int)),(.int .i64 (0:Int)),(.int .i64 (0:Int)),(.int .i64 (0:Int)),(.bool false),(.string (⟨#[]⟩:ByteArray)),(.string (⟨#[]⟩:ByteArray)),(.string (⟨#[]⟩:ByteArray)),(.string (⟨#[]⟩:ByteArray)),(.slice none 0 0),(.slice none 0 0),(.slice none 0 0),(.slice none 0 0)])):=by kernel_rfl
theorem in5:(prog.info? 5).map (fun i=>(i.size,i.bytes,i.zero))=some (1,1,some (.int .u8 (0:Int))):=by kernel_rfl
theorem iz3:(prog.info? 3).map (fun i=>(i.size,i.zero))=some (1,some (.int .i64 (0:Int))):=by kernel_rfl
theorem iz31:(prog.info? 31).map (fun i=>(i.size,i.zero))=some (3,some (.agg #[(.int .i64 (0:Int)),(.int .i64 (0:Int)),(.slice none 0 0)])):=by kernel_rfl
theorem iz36:(prog.info? 36).map (fun i=>(i.size,i.zero))=some (18,some (.agg #[(.int .i64 (0:Int)),(.int .i64 (0:Int)),(.int .i64 (0:Int)),(.int .i64 (0:Int)),(.int .i64 (0:Int)),(.int .i64 (0:Int)),(.int .i64 (0:Int)),(.int .i64 (0:Int)),(.int .i64 (0:Int)),(.bool false),(.string (⟨#[]⟩:ByteArray)),(.string (⟨#[]⟩:ByteArray)),(.string (⟨#[]⟩:ByteArray)),(.string (⟨#[]⟩:ByteArray)),(.slice none 0 0),(.slice none 0 0),(.slice none 0 0),(.slice none 0 0)])):=by kernel_rfl
theorem iz5:(prog.info? 5).map (fun i=>(i.size,i.zero))=some (1,some (.int .u8 (0:Int))):=by kernel_rfl
theorem la0_105 (v:Value) (xT:TypeId) (w:World):(Instr.typeAssert (.iface 0 v) xT 105 true).run prog w= .ok (.tuple #[.nilIface, .bool false]) w:=run_typeAssert_lacksB underlying105 (by kernel_rfl) (by kernel_rfl) v xT w
theorem la0_108 (v:Value) (xT:TypeId) (w:World):(Instr.typeAssert (.iface 0 v) xT 108 true).run prog w= .ok (.tuple #[.nilIface, .bool false]) w:=run_typeAssert_lacksB underlying108 (by kernel_rfl) (by kernel_rfl) v xT w
theorem la0_109 (v:Value) (xT:TypeId) (w:World):(Instr.typeAssert (.iface 0 v) xT 109 true).run prog w= .ok (.tuple #[.nilIface, .bool false]) w:=run_typeAssert_lacksB underlying109 (by kernel_rfl) (by kernel_rfl) v xT w
theorem la0_130 (v:Value) (xT:TypeId) (w:World):(Instr.typeAssert (.iface 0 v) xT 130 true).run prog w= .ok (.tuple #[.nilIface, .bool false]) w:=run_typeAssert_lacksB underlying130 (by kernel_rfl) (by kernel_rfl) v xT w
theorem la47_105 (v:Value) (xT:TypeId) (w:World):(Instr.typeAssert (.iface 47 v) xT 105 true).run prog w= .ok (.tuple #[.nilIface, .bool false]) w:=run_typeAssert_lacksB underlying105 (by kernel_rfl) (by kernel_rfl) v xT w
theorem la47_108 (v:Value) (xT:TypeId) (w:World):(Instr.typeAssert (.iface 47 v) xT 108 true).run prog w= .ok (.tuple #[.nilIface, .bool false]) w:=run_typeAssert_lacksB underlying108 (by kernel_rfl) (by kernel_rfl) v xT w
theorem la47_109 (v:Value) (xT:TypeId) (w:World):(Instr.typeAssert (.iface 47 v) xT 109 true).run prog w= .ok (.tuple #[.nilIface, .bool false]) w:=run_typeAssert_lacksB underlying109 (by kernel_rfl) (by kernel_rfl) v xT w
theorem la74_105 (v:Value) (xT:TypeId) (w:World):(Instr.typeAssert (.iface 74 v) xT 105 true).run prog w= .ok (.tuple #[.nilIface, .bool false]) w:=run_typeAssert_lacksB underlying105 (by kernel_rfl) (by kernel_rfl) v xT w
theorem la74_130 (v:Value) (xT:TypeId) (w:World):(Instr.typeAssert (.iface 74 v) xT 130 true).run prog w= .ok (.tuple #[.nilIface, .bool false]) w:=run_typeAssert_lacksB underlying130 (by kernel_rfl) (by kernel_rfl) v xT w
theorem me74_Unwrap (v:Value) (w:World):(method (mdepth prog) 74 v "Unwrap").run prog w= .ok (97,v) w:=by kernel_rfl
theorem mk47 (p:Addr) (w:World):(Extern.ReflectliteValue.mk 47 p Extern.ReflectliteValue.flagAddr).run prog w= .ok (.agg #[(.pointer (some ⟨1,47,none⟩)), .pointer (some p), .int .u64 386]) w:=by kernel_rfl
theorem mm_AssignableTo (h:Value) (w:World):(method (mdepth prog) 103 (.agg #[h]) "AssignableTo").run prog w= .ok (99, .agg #[h]) w:=by kernel_rfl
theorem mm_Comparable (h:Value) (w:World):(method (mdepth prog) 103 (.agg #[h]) "Comparable").run prog w= .ok (100, .agg #[h]) w:=by kernel_rfl
theorem mm_Elem (h:Value) (w:World):(method (mdepth prog) 103 (.agg #[h]) "Elem").run prog w= .ok (101, .agg #[h]) w:=by kernel_rfl
theorem mm_Implements (h:Value) (w:World):(method (mdepth prog) 103 (.agg #[h]) "Implements").run prog w= .ok (102, .agg #[h]) w:=by kernel_rfl
theorem mm_Kind (h:Value) (w:World):(method (mdepth prog) 103 (.agg #[h]) "Kind").run prog w= .ok (92,h) w:=by kernel_rfl
theorem mr_AssignableTo_0_47 (w:World):((Extern.ReflectliteType.relation "AssignableTo" Extern.ReflectliteType.assignableTo) #[.agg #[(.pointer (some ⟨1,0,none⟩))],(.iface 103 (.agg #[.pointer (some ⟨1,47,none⟩)]))]).run prog w= .ok (.bool false) w:=by kernel_rfl
theorem mr_AssignableTo_47_47 (w:World):((Extern.ReflectliteType.relation "AssignableTo" Extern.ReflectliteType.assignableTo) #[.agg #[(.pointer (some ⟨1,47,none⟩))],(.iface 103 (.agg #[.pointer (some ⟨1,47,none⟩)]))]).run prog w= .ok (.bool true) w:=by kernel_rfl
theorem mr_AssignableTo_74_47 (w:World):((Extern.ReflectliteType.relation "AssignableTo" Extern.ReflectliteType.assignableTo) #[.agg #[(.pointer (some ⟨1,74,none⟩))],(.iface 103 (.agg #[.pointer (some ⟨1,47,none⟩)]))]).run prog w= .ok (.bool false) w:=by kernel_rfl
theorem mr_Comparable_47 (w:World):((Extern.ReflectliteType.method fun t=>do Extern.Rtype.noPackHeld "Comparable" t;pure (.bool (←typeInfo t).comparable)) #[.agg #[(.pointer (some ⟨1,47,none⟩))]]).run prog w= .ok (.bool true) w:=by kernel_rfl
theorem mr_Elem_115 (w:World):((Extern.ReflectliteType.method Extern.ReflectliteType.elem) #[.agg #[(.pointer (some ⟨1,115,none⟩))]]).run prog w= .ok (.iface 103 (.agg #[.pointer (some ⟨1,47,none⟩)])) w:=by kernel_rfl
theorem mr_Implements_47_40 (w:World):((Extern.ReflectliteType.relation "Implements" Extern.ReflectliteType.implements_) #[.agg #[(.pointer (some ⟨1,47,none⟩))],(.iface 103 (.agg #[.pointer (some ⟨1,40,none⟩)]))]).run prog w= .ok (.bool true) w:=by kernel_rfl
theorem mr_Kind_115 (w:World):((Extern.ReflectliteType.abiMethod fun t=>do pure (.int .u8 (←Extern.Rtype.kind t))) #[(.pointer (some ⟨1,115,none⟩))]).run prog w= .ok (.int .u8 (22:Int)) w:=by kernel_rfl
theorem mr_Kind_47 (w:World):((Extern.ReflectliteType.abiMethod fun t=>do pure (.int .u8 (←Extern.Rtype.kind t))) #[(.pointer (some ⟨1,47,none⟩))]).run prog w= .ok (.int .u8 (2:Int)) w:=by kernel_rfl
theorem pl115:plainT prog 115=true:=by kernel_rfl
theorem pl23:plainT prog 23=true:=by kernel_rfl
theorem pl3:plainT prog 3=true:=by kernel_rfl
theorem pl34:plainT prog 34=true:=by kernel_rfl
theorem pl38:plainT prog 38=true:=by kernel_rfl
theorem pl4:plainT prog 4=true:=by kernel_rfl
theorem pl40:plainT prog 40=true:=by kernel_rfl
theorem pl47:plainT prog 47=true:=by kernel_rfl
theorem pl5:plainT prog 5=true:=by kernel_rfl
theorem pl55:plainT prog 55=true:=by kernel_rfl
theorem pl65:plainT prog 65=true:=by kernel_rfl
theorem pl87:plainT prog 87=true:=by kernel_rfl
theorem pl9:plainT prog 9=true:=by kernel_rfl
theorem pp115_150 (a:Addr) (w:World):(Extern.ReflectliteValue.parts (.agg #[(.pointer (some ⟨1,115,none⟩)), .pointer (some a), .int .u64 150])).run prog w= .ok (some (115,a,150)) w:=by kernel_rfl
theorem pp47_130 (a:Addr) (w:World):(Extern.ReflectliteValue.parts (.agg #[(.pointer (some ⟨1,47,none⟩)), .pointer (some a), .int .u64 130])).run prog w= .ok (some (47,a,130)) w:=by kernel_rfl
theorem pp47_386 (a:Addr) (w:World):(Extern.ReflectliteValue.parts (.agg #[(.pointer (some ⟨1,47,none⟩)), .pointer (some a), .int .u64 386])).run prog w= .ok (some (47,a,386)) w:=by kernel_rfl
theorem sz120:(prog.info? 120).map (·.size)=some 3:=by kernel_rfl
theorem sz23:(prog.info? 23).map (·.size)=some 1:=by kernel_rfl
theorem sz3:(prog.info? 3).map (·.size)=some 1:=by kernel_rfl
theorem sz31:(prog.info? 31).map (·.size)=some 3:=by kernel_rfl
theorem sz34:(prog.info? 34).map (·.size)=some 1:=by kernel_rfl
theorem sz36:(prog.info? 36).map (·.size)=some 18:=by kernel_rfl
theorem sz38:(prog.info? 38).map (·.size)=some 1:=by kernel_rfl
theorem sz4:(prog.info? 4).map (·.size)=some 1:=by kernel_rfl
theorem sz40:(prog.info? 40).map (·.size)=some 1:=by kernel_rfl
theorem sz47:(prog.info? 47).map (·.size)=some 1:=by kernel_rfl
theorem sz5:(prog.info? 5).map (·.size)=some 1:=by kernel_rfl
theorem sz65:(prog.info? 65).map (·.size)=some 1:=by kernel_rfl
theorem sz82:(prog.info? 82).map (·.size)=some 9:=by kernel_rfl
theorem sz84:(prog.info? 84).map (·.size)=some 4:=by kernel_rfl
theorem sz9:(prog.info? 9).map (·.size)=some 1:=by kernel_rfl
theorem ty0 (v:Value) (w:World):(Extern.ReflectliteType.typeOf #[.iface 0 v]).run prog w= .ok (.iface 103 (.agg #[(.pointer (some ⟨1,0,none⟩))])) w:=by kernel_rfl
theorem ty47 (v:Value) (w:World):(Extern.ReflectliteType.typeOf #[.iface 47 v]).run prog w= .ok (.iface 103 (.agg #[(.pointer (some ⟨1,47,none⟩))])) w:=by kernel_rfl
theorem ty74 (v:Value) (w:World):(Extern.ReflectliteType.typeOf #[.iface 74 v]).run prog w= .ok (.iface 103 (.agg #[(.pointer (some ⟨1,74,none⟩))])) w:=by kernel_rfl
theorem tyNil (w:World):(Extern.ReflectliteType.typeOf #[.nilIface]).run prog w= .ok .nilIface w:=by kernel_rfl
theorem us22:(prog.underlying 22).isSome=true:=by kernel_rfl
theorem us3:(prog.underlying 3).isSome=true:=by kernel_rfl
theorem us5:(prog.underlying 5).isSome=true:=by kernel_rfl
theorem us65:(prog.underlying 65).isSome=true:=by kernel_rfl
theorem vo115 (p:Addr) (w:World):(Extern.ReflectliteValue.unpack (.iface 115 (.pointer (some p)))).run prog w= .ok (.agg #[(.pointer (some ⟨1,115,none⟩)), .pointer (some ⟨w.heap.size,0,none⟩), .int .u64 150]) (w.alloc (.cells #[.pointer (some p)] 115)):=by kernel_rfl
theorem vo47 (n:Int) (w:World):(Extern.ReflectliteValue.unpack (.iface 47 (.int .i64 n))).run prog w= .ok (.agg #[(.pointer (some ⟨1,47,none⟩)), .pointer (some ⟨w.heap.size,0,none⟩), .int .u64 130]) (w.alloc (.cells #[.int .i64 n] 47)):=by kernel_rfl
theorem vt115_150 (a:Addr) (w:World):((Extern.ReflectliteValue.methodAny (Extern.ReflectliteValue.valueError "reflectlite.Value.Type" 0) (fun t _ _ _=>Extern.ReflectliteType.toType t)) #[.agg #[(.pointer (some ⟨1,115,none⟩)), .pointer (some a), .int .u64 150]]).run prog w= .ok (.iface 103 (.agg #[(.pointer (some ⟨1,115,none⟩))])) w:=by kernel_rfl
theorem xt100:ExtOk prog 100 (Extern.ReflectliteType.method fun t=>do Extern.Rtype.noPackHeld "Comparable" t;pure (.bool (←typeInfo t).comparable)):=fun args w=>run_callFunc_extern (e:=(Extern.ReflectliteType.method fun t=>do Extern.Rtype.noPackHeld "Comparable" t;pure (.bool (←typeInfo t).comparable))) func100 (by kernel_rfl) (by kernel_rfl) (by kernel_rfl) (by kernel_rfl) args w
theorem xt101:ExtOk prog 101 (Extern.ReflectliteType.method Extern.ReflectliteType.elem):=fun args w=>run_callFunc_extern (e:=(Extern.ReflectliteType.method Extern.ReflectliteType.elem)) func101 (by kernel_rfl) (by kernel_rfl) (by kernel_rfl) (by kernel_rfl) args w
theorem xt102:ExtOk prog 102 (Extern.ReflectliteType.relation "Implements" Extern.ReflectliteType.implements_):=fun args w=>run_callFunc_extern (e:=(Extern.ReflectliteType.relation "Implements" Extern.ReflectliteType.implements_)) func102 (by kernel_rfl) (by kernel_rfl) (by kernel_rfl) (by kernel_rfl) args w
theorem xt49:ExtOk prog 49 Extern.ReflectliteType.typeOf:=fun args w=>run_callFunc_extern (e:=Extern.ReflectliteType.typeOf) func49 (by kernel_rfl) (by kernel_rfl) (by kernel_rfl) (by kernel_rfl) args w
theorem xt71:ExtOk prog 71 (fun args=>Extern.ReflectliteValue.unpack (args.getD 0 (.tuple #[]))):=fun args w=>run_callFunc_extern (e:=(fun args=>Extern.ReflectliteValue.unpack (args.getD 0 (.tuple #[])))) func71 (by kernel_rfl) (by kernel_rfl) (by kernel_rfl) (by kernel_rfl) args w
theorem xt72:ExtOk prog 72 (Extern.ReflectliteValue.methodAny (Extern.ReflectliteValue.valueError "reflectlite.Value.Type" 0) (fun t _ _ _=>Extern.ReflectliteType.toType t)):=fun args w=>run_callFunc_extern (e:=(Extern.ReflectliteValue.methodAny (Extern.ReflectliteValue.valueError "reflectlite.Value.Type" 0) (fun t _ _ _=>Extern.ReflectliteType.toType t))) func72 (by kernel_rfl) (by kernel_rfl) (by kernel_rfl) (by kernel_rfl) args w
theorem xt73:ExtOk prog 73 (Extern.ReflectliteValue.method (Extern.ReflectliteValue.valueError "reflectlite.Value.IsNil" 0) Extern.ReflectliteValue.isNil):=fun args w=>run_callFunc_extern (e:=(Extern.ReflectliteValue.method (Extern.ReflectliteValue.valueError "reflectlite.Value.IsNil" 0) Extern.ReflectliteValue.isNil)) func73 (by kernel_rfl) (by kernel_rfl) (by kernel_rfl) (by kernel_rfl) args w
theorem xt76:ExtOk prog 76 (Extern.ReflectliteValue.method (Extern.ReflectliteValue.valueError "reflectlite.Value.Elem" 0) Extern.ReflectliteValue.elem):=fun args w=>run_callFunc_extern (e:=(Extern.ReflectliteValue.method (Extern.ReflectliteValue.valueError "reflectlite.Value.Elem" 0) Extern.ReflectliteValue.elem)) func76 (by kernel_rfl) (by kernel_rfl) (by kernel_rfl) (by kernel_rfl) args w
theorem xt77:ExtOk prog 77 Extern.ReflectliteValue.set:=fun args w=>run_callFunc_extern (e:=Extern.ReflectliteValue.set) func77 (by kernel_rfl) (by kernel_rfl) (by kernel_rfl) (by kernel_rfl) args w
theorem xt92:ExtOk prog 92 (Extern.ReflectliteType.abiMethod fun t=>do pure (.int .u8 (←Extern.Rtype.kind t))):=fun args w=>run_callFunc_extern (e:=(Extern.ReflectliteType.abiMethod fun t=>do pure (.int .u8 (←Extern.Rtype.kind t)))) func92 (by kernel_rfl) (by kernel_rfl) (by kernel_rfl) (by kernel_rfl) args w
theorem xt99:ExtOk prog 99 (Extern.ReflectliteType.relation "AssignableTo" Extern.ReflectliteType.assignableTo):=fun args w=>run_callFunc_extern (e:=(Extern.ReflectliteType.relation "AssignableTo" Extern.ReflectliteType.assignableTo)) func99 (by kernel_rfl) (by kernel_rfl) (by kernel_rfl) (by kernel_rfl) args w
theorem ze120:(prog.info? 120).map (·.zero)=some (some (.agg #[(.pointer none),(.pointer none),(.int .u64 (0:Int))])):=by kernel_rfl
theorem ze3:(prog.info? 3).map (·.zero)=some (some (.int .i64 (0:Int))):=by kernel_rfl
theorem ze31:(prog.info? 31).map (·.zero)=some (some (.agg #[(.int .i64 (0:Int)),(.int .i64 (0:Int)),(.slice none 0 0)])):=by kernel_rfl
theorem ze36:(prog.info? 36).map (·.zero)=some (some (.agg #[(.int .i64 (0:Int)),(.int .i64 (0:Int)),(.int .i64 (0:Int)),(.int .i64 (0:Int)),(.int .i64 (0:Int)),(.int .i64 (0:Int)),(.int .i64 (0:Int)),(.int .i64 (0:Int)),(.int .i64 (0:Int)),(.bool false),(.string (⟨#[]⟩:ByteArray)),(.string (⟨#[]⟩:ByteArray)),(.string (⟨#[]⟩:ByteArray)),(.string (⟨#[]⟩:ByteArray)),(.slice none 0 0),(.slice none 0 0),(.slice none 0 0),(.slice none 0 0)])):=by kernel_rfl
theorem ze38:(prog.info? 38).map (·.zero)=some (some (.slice none 0 0)):=by kernel_rfl
theorem ze47:(prog.info? 47).map (·.zero)=some (some (.int .i64 (0:Int))):=by kernel_rfl
theorem ze65:(prog.info? 65).map (·.zero)=some (some (.int .u64 (0:Int))):=by kernel_rfl
theorem ze74:(prog.info? 74).map (·.zero)=some (some (.agg #[(.string (⟨#[]⟩:ByteArray)),(.int .i64 (0:Int)),(.nilIface)])):=by kernel_rfl
theorem ze76:(prog.info? 76).map (·.zero)=some (some (.agg #[(.slice none 0 0),(.int .i64 (0:Int)),(.nilIface)])):=by kernel_rfl
theorem ze82:(prog.info? 82).map (·.zero)=some (some (.agg #[(.int .i64 (0:Int)),(.int .i64 (0:Int)),(.int .i64 (0:Int)),(.int .i64 (0:Int)),(.int .i64 (0:Int)),(.int .i64 (0:Int)),(.int .i64 (0:Int)),(.int .i64 (0:Int)),(.int .i64 (0:Int))])):=by kernel_rfl
theorem ze84:(prog.info? 84).map (·.zero)=some (some (.agg #[(.string (⟨#[]⟩:ByteArray)),(.string (⟨#[]⟩:ByteArray)),(.string (⟨#[]⟩:ByteArray)),(.string (⟨#[]⟩:ByteArray))])):=by kernel_rfl
theorem zo105:(prog.info? 105).map (·.zero)=some (some .nilIface):=by kernel_rfl
theorem zo108:(prog.info? 108).map (·.zero)=some (some .nilIface):=by kernel_rfl
theorem zo109:(prog.info? 109).map (·.zero)=some (some .nilIface):=by kernel_rfl
theorem mixed:prog.follows .mixedOrders=true:=by kernel_rfl
abbrev lit2_:T_api_Record:=⟨(1:Int),(0:Int),(0:Int),(0:Int),(0:Int),(0:Int),(0:Int),(0:Int),(0:Int),false,(⟨#[]⟩:ByteArray),(⟨#[]⟩:ByteArray),(⟨#[]⟩:ByteArray),(⟨#[]⟩:ByteArray),[],[],[],[]⟩
abbrev lit1_:T_api_Record:=⟨(11:Int),(0:Int),(0:Int),(2:Int),(0:Int),(0:Int),(0:Int),(0:Int),(0:Int),false,(⟨#[]⟩:ByteArray),(⟨#[]⟩:ByteArray),(⟨#[]⟩:ByteArray),(⟨#[]⟩:ByteArray),[],[],[],[]⟩
end Go.Proofs.YtpmofealbmapiaaDoor.G
