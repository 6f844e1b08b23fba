/- Closed facts on the program's types. Printed by a program of the session (gen). -/
import Derived.Test.YtmifmgpfjamdkaaDoorET
import Derived.Test.YtmifmgpfjamdkaaDoorProg
set_option linter.unusedVariables false
set_option linter.unusedSimpArgs false
namespace Go.Proofs.YtmifmgpfjamdkaaDoor.G
open Go Go.KK

def Env (M : IM) : Prop := M.cell ⟨0, 0, none⟩ = some (.iface 104 (.agg #[(.pointer (some ⟨1, 28, none⟩))]))
theorem Env.mono {M M' : IM} (h : Env M) (hle : M.le M') : Env M' := hle.cell h
theorem ag24 : aggB Tryd.prog 24 = true := by kernel_rfl
theorem ag65 : aggB Tryd.prog 65 = true := by kernel_rfl
theorem ag89 : aggB Tryd.prog 89 = true := by kernel_rfl
theorem cc35 : Tryd.prog.concrete 35 = true := by kernel_rfl
theorem cc65 : Tryd.prog.concrete 65 = true := by kernel_rfl
theorem cc67 : Tryd.prog.concrete 67 = true := by kernel_rfl
theorem cc68 : Tryd.prog.concrete 68 = true := by kernel_rfl
theorem cc83 : Tryd.prog.concrete 83 = true := by kernel_rfl
theorem cm35 : (Tryd.prog.info? 35).map (·.comparable) = some true := by kernel_rfl
theorem co10 : callOk Tryd.prog 10 = true := by kernel_rfl
theorem co11 : callOk Tryd.prog 11 = true := by kernel_rfl
theorem co12 : callOk Tryd.prog 12 = true := by kernel_rfl
theorem co13 : callOk Tryd.prog 13 = true := by kernel_rfl
theorem co14 : callOk Tryd.prog 14 = true := by kernel_rfl
theorem co15 : callOk Tryd.prog 15 = true := by kernel_rfl
theorem co16 : callOk Tryd.prog 16 = true := by kernel_rfl
theorem co17 : callOk Tryd.prog 17 = true := by kernel_rfl
theorem co18 : callOk Tryd.prog 18 = true := by kernel_rfl
theorem co29 : callOk Tryd.prog 29 = true := by kernel_rfl
theorem co30 : callOk Tryd.prog 30 = true := by kernel_rfl
theorem co31 : callOk Tryd.prog 31 = true := by kernel_rfl
theorem co32 : callOk Tryd.prog 32 = true := by kernel_rfl
theorem co33 : callOk Tryd.prog 33 = true := by kernel_rfl
theorem co34 : callOk Tryd.prog 34 = true := by kernel_rfl
theorem co35 : callOk Tryd.prog 35 = true := by kernel_rfl
theorem co36 : callOk Tryd.prog 36 = true := by kernel_rfl
theorem co41 : callOk Tryd.prog 41 = true := by kernel_rfl
theorem co45 : callOk Tryd.prog 45 = true := by kernel_rfl
theorem co50 : callOk Tryd.prog 50 = true := by kernel_rfl
theorem co6 : callOk Tryd.prog 6 = true := by kernel_rfl
theorem co7 : callOk Tryd.prog 7 = true := by kernel_rfl
theorem co72 : callOk Tryd.prog 72 = true := by kernel_rfl
theorem co8 : callOk Tryd.prog 8 = true := by kernel_rfl
theorem co9 : callOk Tryd.prog 9 = true := by kernel_rfl
theorem da35 (w : World) : (Extern.Rtype.directlyAssignable 35 35).run Tryd.prog w = .ok true w := by kernel_rfl
theorem da65 (w : World) : (Extern.Rtype.directlyAssignable 65 65).run Tryd.prog w = .ok true w := by kernel_rfl
theorem el67 (w : World) : (Extern.Rtype.elem? 67).run Tryd.prog w = .ok (some 65) w := by kernel_rfl
theorem el68 (w : World) : (Extern.Rtype.elem? 68).run Tryd.prog w = .ok (some 35) w := by kernel_rfl
theorem fo24_0 : fldOff Tryd.prog 24 0 = some 0 := by kernel_rfl
theorem fo24_1 : fldOff Tryd.prog 24 1 = some 1 := by kernel_rfl
theorem fo63_0 : fldOff Tryd.prog 63 0 = some 0 := by kernel_rfl
theorem fo63_1 : fldOff Tryd.prog 63 1 = some 1 := by kernel_rfl
theorem fo65_0 : fldOff Tryd.prog 65 0 = some 0 := by kernel_rfl
theorem fo65_1 : fldOff Tryd.prog 65 1 = some 1 := by kernel_rfl
theorem fo65_2 : fldOff Tryd.prog 65 2 = some 2 := by kernel_rfl
theorem fp24 : fldPlace Tryd.prog 24 = some [(0, 1), (1, 1)] := by kernel_rfl
theorem fp63 : fldPlace Tryd.prog 63 = some [(0, 1), (1, 1)] := by kernel_rfl
theorem fp65 : fldPlace Tryd.prog 65 = some [(0, 1), (1, 1), (2, 1)] := by kernel_rfl
theorem fp85 : fldPlace Tryd.prog 85 = some [(0, 1)] := by kernel_rfl
theorem ha65_111 (v : Value) (xT : TypeId) (w : World) : (Instr.typeAssert (.iface 65 v) xT 111 true).run Tryd.prog w = .ok (.tuple #[.iface 65 v, .bool true]) w := run_typeAssert_hasB Tryd.underlying111 (by kernel_rfl) v xT w
theorem in63 : (Tryd.prog.info? 63).map (fun i => (i.size, i.bytes, i.zero)) = some (2, 24, some (.agg #[(.string (⟨#[]⟩ : ByteArray)), (.int .i64 (0 : Int))])) := by kernel_rfl
theorem in9 : (Tryd.prog.info? 9).map (fun i => (i.size, i.bytes, i.zero)) = some (1, 16, some (.string (⟨#[]⟩ : ByteArray))) := by kernel_rfl
theorem iz63 : (Tryd.prog.info? 63).map (fun i => (i.size, i.zero)) = some (2, some (.agg #[(.string (⟨#[]⟩ : ByteArray)), (.int .i64 (0 : Int))])) := by kernel_rfl
theorem iz9 : (Tryd.prog.info? 9).map (fun i => (i.size, i.zero)) = some (1, some (.string (⟨#[]⟩ : ByteArray))) := by kernel_rfl
theorem la35_108 (v : Value) (xT : TypeId) (w : World) : (Instr.typeAssert (.iface 35 v) xT 108 true).run Tryd.prog w = .ok (.tuple #[.nilIface, .bool false]) w := run_typeAssert_lacksB Tryd.underlying108 (by kernel_rfl) (by kernel_rfl) v xT w
theorem la35_111 (v : Value) (xT : TypeId) (w : World) : (Instr.typeAssert (.iface 35 v) xT 111 true).run Tryd.prog w = .ok (.tuple #[.nilIface, .bool false]) w := run_typeAssert_lacksB Tryd.underlying111 (by kernel_rfl) (by kernel_rfl) v xT w
theorem la35_113 (v : Value) (xT : TypeId) (w : World) : (Instr.typeAssert (.iface 35 v) xT 113 true).run Tryd.prog w = .ok (.tuple #[.nilIface, .bool false]) w := run_typeAssert_lacksB Tryd.underlying113 (by kernel_rfl) (by kernel_rfl) v xT w
theorem la35_117 (v : Value) (xT : TypeId) (w : World) : (Instr.typeAssert (.iface 35 v) xT 117 true).run Tryd.prog w = .ok (.tuple #[.nilIface, .bool false]) w := run_typeAssert_lacksB Tryd.underlying117 (by kernel_rfl) (by kernel_rfl) v xT w
theorem la65_108 (v : Value) (xT : TypeId) (w : World) : (Instr.typeAssert (.iface 65 v) xT 108 true).run Tryd.prog w = .ok (.tuple #[.nilIface, .bool false]) w := run_typeAssert_lacksB Tryd.underlying108 (by kernel_rfl) (by kernel_rfl) v xT w
theorem la65_117 (v : Value) (xT : TypeId) (w : World) : (Instr.typeAssert (.iface 65 v) xT 117 true).run Tryd.prog w = .ok (.tuple #[.nilIface, .bool false]) w := run_typeAssert_lacksB Tryd.underlying117 (by kernel_rfl) (by kernel_rfl) v xT w
theorem la83_108 (v : Value) (xT : TypeId) (w : World) : (Instr.typeAssert (.iface 83 v) xT 108 true).run Tryd.prog w = .ok (.tuple #[.nilIface, .bool false]) w := run_typeAssert_lacksB Tryd.underlying108 (by kernel_rfl) (by kernel_rfl) v xT w
theorem la83_111 (v : Value) (xT : TypeId) (w : World) : (Instr.typeAssert (.iface 83 v) xT 111 true).run Tryd.prog w = .ok (.tuple #[.nilIface, .bool false]) w := run_typeAssert_lacksB Tryd.underlying111 (by kernel_rfl) (by kernel_rfl) v xT w
theorem la83_113 (v : Value) (xT : TypeId) (w : World) : (Instr.typeAssert (.iface 83 v) xT 113 true).run Tryd.prog w = .ok (.tuple #[.nilIface, .bool false]) w := run_typeAssert_lacksB Tryd.underlying113 (by kernel_rfl) (by kernel_rfl) v xT w
theorem la83_117 (v : Value) (xT : TypeId) (w : World) : (Instr.typeAssert (.iface 83 v) xT 117 true).run Tryd.prog w = .ok (.tuple #[.nilIface, .bool false]) w := run_typeAssert_lacksB Tryd.underlying117 (by kernel_rfl) (by kernel_rfl) v xT w
theorem me65_Unwrap (v : Value) (w : World) : (method (mdepth Tryd.prog) 65 v "Unwrap").run Tryd.prog w = .ok (72, v) w := by kernel_rfl
theorem mk35 (p : Addr) (w : World) : (Extern.ReflectliteValue.mk 35 p Extern.ReflectliteValue.flagAddr).run Tryd.prog w = .ok (.agg #[(.pointer (some ⟨1, 35, none⟩)), .pointer (some p), .int .u64 386]) w := by kernel_rfl
theorem mk65 (p : Addr) (w : World) : (Extern.ReflectliteValue.mk 65 p Extern.ReflectliteValue.flagAddr).run Tryd.prog w = .ok (.agg #[(.pointer (some ⟨1, 65, none⟩)), .pointer (some p), .int .u64 409]) w := by kernel_rfl
theorem mm_AssignableTo (h : Value) (w : World) : (method (mdepth Tryd.prog) 104 (.agg #[h]) "AssignableTo").run Tryd.prog w = .ok (78, .agg #[h]) w := by kernel_rfl
theorem mm_Comparable (h : Value) (w : World) : (method (mdepth Tryd.prog) 104 (.agg #[h]) "Comparable").run Tryd.prog w = .ok (79, .agg #[h]) w := by kernel_rfl
theorem mm_Elem (h : Value) (w : World) : (method (mdepth Tryd.prog) 104 (.agg #[h]) "Elem").run Tryd.prog w = .ok (80, .agg #[h]) w := by kernel_rfl
theorem mm_Implements (h : Value) (w : World) : (method (mdepth Tryd.prog) 104 (.agg #[h]) "Implements").run Tryd.prog w = .ok (81, .agg #[h]) w := by kernel_rfl
theorem mm_Kind (h : Value) (w : World) : (method (mdepth Tryd.prog) 104 (.agg #[h]) "Kind").run Tryd.prog w = .ok (67, h) w := by kernel_rfl
theorem mr_AssignableTo_35_35 (w : World) : ((Extern.ReflectliteType.relation "AssignableTo" Extern.ReflectliteType.assignableTo) #[.agg #[(.pointer (some ⟨1, 35, none⟩))], (.iface 104 (.agg #[.pointer (some ⟨1, 35, none⟩)]))]).run Tryd.prog w = .ok (.bool true) w := by kernel_rfl
theorem mr_AssignableTo_35_65 (w : World) : ((Extern.ReflectliteType.relation "AssignableTo" Extern.ReflectliteType.assignableTo) #[.agg #[(.pointer (some ⟨1, 35, none⟩))], (.iface 104 (.agg #[.pointer (some ⟨1, 65, none⟩)]))]).run Tryd.prog w = .ok (.bool false) w := by kernel_rfl
theorem mr_AssignableTo_65_35 (w : World) : ((Extern.ReflectliteType.relation "AssignableTo" Extern.ReflectliteType.assignableTo) #[.agg #[(.pointer (some ⟨1, 65, none⟩))], (.iface 104 (.agg #[.pointer (some ⟨1, 35, none⟩)]))]).run Tryd.prog w = .ok (.bool false) w := by kernel_rfl
theorem mr_AssignableTo_65_65 (w : World) : ((Extern.ReflectliteType.relation "AssignableTo" Extern.ReflectliteType.assignableTo) #[.agg #[(.pointer (some ⟨1, 65, none⟩))], (.iface 104 (.agg #[.pointer (some ⟨1, 65, none⟩)]))]).run Tryd.prog w = .ok (.bool true) w := by kernel_rfl
theorem mr_AssignableTo_83_35 (w : World) : ((Extern.ReflectliteType.relation "AssignableTo" Extern.ReflectliteType.assignableTo) #[.agg #[(.pointer (some ⟨1, 83, none⟩))], (.iface 104 (.agg #[.pointer (some ⟨1, 35, none⟩)]))]).run Tryd.prog w = .ok (.bool false) w := by kernel_rfl
theorem mr_AssignableTo_83_65 (w : World) : ((Extern.ReflectliteType.relation "AssignableTo" Extern.ReflectliteType.assignableTo) #[.agg #[(.pointer (some ⟨1, 83, none⟩))], (.iface 104 (.agg #[.pointer (some ⟨1, 65, none⟩)]))]).run Tryd.prog w = .ok (.bool false) w := by kernel_rfl
theorem mr_Comparable_35 (w : World) : ((Extern.ReflectliteType.method fun t => do Extern.Rtype.noPackHeld "Comparable" t; pure (.bool (← typeInfo t).comparable)) #[.agg #[(.pointer (some ⟨1, 35, none⟩))]]).run Tryd.prog w = .ok (.bool true) w := by kernel_rfl
theorem mr_Elem_67 (w : World) : ((Extern.ReflectliteType.method Extern.ReflectliteType.elem) #[.agg #[(.pointer (some ⟨1, 67, none⟩))]]).run Tryd.prog w = .ok (.iface 104 (.agg #[.pointer (some ⟨1, 65, none⟩)])) w := by kernel_rfl
theorem mr_Elem_68 (w : World) : ((Extern.ReflectliteType.method Extern.ReflectliteType.elem) #[.agg #[(.pointer (some ⟨1, 68, none⟩))]]).run Tryd.prog w = .ok (.iface 104 (.agg #[.pointer (some ⟨1, 35, none⟩)])) w := by kernel_rfl
theorem mr_Implements_35_28 (w : World) : ((Extern.ReflectliteType.relation "Implements" Extern.ReflectliteType.implements_) #[.agg #[(.pointer (some ⟨1, 35, none⟩))], (.iface 104 (.agg #[.pointer (some ⟨1, 28, none⟩)]))]).run Tryd.prog w = .ok (.bool true) w := by kernel_rfl
theorem mr_Implements_65_28 (w : World) : ((Extern.ReflectliteType.relation "Implements" Extern.ReflectliteType.implements_) #[.agg #[(.pointer (some ⟨1, 65, none⟩))], (.iface 104 (.agg #[.pointer (some ⟨1, 28, none⟩)]))]).run Tryd.prog w = .ok (.bool true) w := by kernel_rfl
theorem mr_Kind_35 (w : World) : ((Extern.ReflectliteType.abiMethod fun t => do pure (.int .u8 (← Extern.Rtype.kind t))) #[(.pointer (some ⟨1, 35, none⟩))]).run Tryd.prog w = .ok (.int .u8 (2 : Int)) w := by kernel_rfl
theorem mr_Kind_65 (w : World) : ((Extern.ReflectliteType.abiMethod fun t => do pure (.int .u8 (← Extern.Rtype.kind t))) #[(.pointer (some ⟨1, 65, none⟩))]).run Tryd.prog w = .ok (.int .u8 (25 : Int)) w := by kernel_rfl
theorem mr_Kind_67 (w : World) : ((Extern.ReflectliteType.abiMethod fun t => do pure (.int .u8 (← Extern.Rtype.kind t))) #[(.pointer (some ⟨1, 67, none⟩))]).run Tryd.prog w = .ok (.int .u8 (22 : Int)) w := by kernel_rfl
theorem mr_Kind_68 (w : World) : ((Extern.ReflectliteType.abiMethod fun t => do pure (.int .u8 (← Extern.Rtype.kind t))) #[(.pointer (some ⟨1, 68, none⟩))]).run Tryd.prog w = .ok (.int .u8 (22 : Int)) w := by kernel_rfl
theorem pl22 : plainT Tryd.prog 22 = true := by kernel_rfl
theorem pl28 : plainT Tryd.prog 28 = true := by kernel_rfl
theorem pl3 : plainT Tryd.prog 3 = true := by kernel_rfl
theorem pl35 : plainT Tryd.prog 35 = true := by kernel_rfl
theorem pl67 : plainT Tryd.prog 67 = true := by kernel_rfl
theorem pl68 : plainT Tryd.prog 68 = true := by kernel_rfl
theorem pl9 : plainT Tryd.prog 9 = true := by kernel_rfl
theorem pl92 : plainT Tryd.prog 92 = true := by kernel_rfl
theorem pp35_130 (a : Addr) (w : World) : (Extern.ReflectliteValue.parts (.agg #[(.pointer (some ⟨1, 35, none⟩)), .pointer (some a), .int .u64 130])).run Tryd.prog w = .ok (some (35, a, 130)) w := by kernel_rfl
theorem pp35_386 (a : Addr) (w : World) : (Extern.ReflectliteValue.parts (.agg #[(.pointer (some ⟨1, 35, none⟩)), .pointer (some a), .int .u64 386])).run Tryd.prog w = .ok (some (35, a, 386)) w := by kernel_rfl
theorem pp65_153 (a : Addr) (w : World) : (Extern.ReflectliteValue.parts (.agg #[(.pointer (some ⟨1, 65, none⟩)), .pointer (some a), .int .u64 153])).run Tryd.prog w = .ok (some (65, a, 153)) w := by kernel_rfl
theorem pp65_409 (a : Addr) (w : World) : (Extern.ReflectliteValue.parts (.agg #[(.pointer (some ⟨1, 65, none⟩)), .pointer (some a), .int .u64 409])).run Tryd.prog w = .ok (some (65, a, 409)) w := by kernel_rfl
theorem pp67_150 (a : Addr) (w : World) : (Extern.ReflectliteValue.parts (.agg #[(.pointer (some ⟨1, 67, none⟩)), .pointer (some a), .int .u64 150])).run Tryd.prog w = .ok (some (67, a, 150)) w := by kernel_rfl
theorem pp68_150 (a : Addr) (w : World) : (Extern.ReflectliteValue.parts (.agg #[(.pointer (some ⟨1, 68, none⟩)), .pointer (some a), .int .u64 150])).run Tryd.prog w = .ok (some (68, a, 150)) w := by kernel_rfl
theorem sz24 : (Tryd.prog.info? 24).map (·.size) = some 2 := by kernel_rfl
theorem sz35 : (Tryd.prog.info? 35).map (·.size) = some 1 := by kernel_rfl
theorem sz63 : (Tryd.prog.info? 63).map (·.size) = some 2 := by kernel_rfl
theorem sz65 : (Tryd.prog.info? 65).map (·.size) = some 3 := by kernel_rfl
theorem sz89 : (Tryd.prog.info? 89).map (·.size) = some 3 := by kernel_rfl
theorem sz9 : (Tryd.prog.info? 9).map (·.size) = some 1 := by kernel_rfl
theorem ty35 (v : Value) (w : World) : (Extern.ReflectliteType.typeOf #[.iface 35 v]).run Tryd.prog w = .ok (.iface 104 (.agg #[(.pointer (some ⟨1, 35, none⟩))])) w := by kernel_rfl
theorem ty65 (v : Value) (w : World) : (Extern.ReflectliteType.typeOf #[.iface 65 v]).run Tryd.prog w = .ok (.iface 104 (.agg #[(.pointer (some ⟨1, 65, none⟩))])) w := by kernel_rfl
theorem ty83 (v : Value) (w : World) : (Extern.ReflectliteType.typeOf #[.iface 83 v]).run Tryd.prog w = .ok (.iface 104 (.agg #[(.pointer (some ⟨1, 83, none⟩))])) w := by kernel_rfl
theorem tyNil (w : World) : (Extern.ReflectliteType.typeOf #[.nilIface]).run Tryd.prog w = .ok .nilIface w := by kernel_rfl
theorem vo35 (n : Int) (w : World) : (Extern.ReflectliteValue.unpack (.iface 35 (.int .i64 n))).run Tryd.prog w = .ok (.agg #[(.pointer (some ⟨1, 35, none⟩)), .pointer (some ⟨w.heap.size, 0, none⟩), .int .u64 130]) (w.alloc (.cells #[.int .i64 n] 35)) := by kernel_rfl
theorem vo65 (o : ByteArray) (n : Int) (e : Value) (w : World) : (Extern.ReflectliteValue.unpack (.iface 65 (.agg #[.string o, .int .i64 n, e]))).run Tryd.prog w = .ok (.agg #[(.pointer (some ⟨1, 65, none⟩)), .pointer (some ⟨w.heap.size, 0, none⟩), .int .u64 153]) (w.alloc (.cells #[.string o, .int .i64 n, e] 65)) := by kernel_rfl
theorem vo67 (p : Addr) (w : World) : (Extern.ReflectliteValue.unpack (.iface 67 (.pointer (some p)))).run Tryd.prog w = .ok (.agg #[(.pointer (some ⟨1, 67, none⟩)), .pointer (some ⟨w.heap.size, 0, none⟩), .int .u64 150]) (w.alloc (.cells #[.pointer (some p)] 67)) := by kernel_rfl
theorem vo68 (p : Addr) (w : World) : (Extern.ReflectliteValue.unpack (.iface 68 (.pointer (some p)))).run Tryd.prog w = .ok (.agg #[(.pointer (some ⟨1, 68, none⟩)), .pointer (some ⟨w.heap.size, 0, none⟩), .int .u64 150]) (w.alloc (.cells #[.pointer (some p)] 68)) := by kernel_rfl
theorem vt67_150 (a : Addr) (w : World) : ((Extern.ReflectliteValue.methodAny (Extern.ReflectliteValue.valueError "reflectlite.Value.Type" 0) (fun t _ _ _ => Extern.ReflectliteType.toType t)) #[.agg #[(.pointer (some ⟨1, 67, none⟩)), .pointer (some a), .int .u64 150]]).run Tryd.prog w = .ok (.iface 104 (.agg #[(.pointer (some ⟨1, 67, none⟩))])) w := by kernel_rfl
theorem vt68_150 (a : Addr) (w : World) : ((Extern.ReflectliteValue.methodAny (Extern.ReflectliteValue.valueError "reflectlite.Value.Type" 0) (fun t _ _ _ => Extern.ReflectliteType.toType t)) #[.agg #[(.pointer (some ⟨1, 68, none⟩)), .pointer (some a), .int .u64 150]]).run Tryd.prog w = .ok (.iface 104 (.agg #[(.pointer (some ⟨1, 68, none⟩))])) w := by kernel_rfl
theorem xt42 : ExtOk Tryd.prog 42 (fun args => Extern.ReflectliteValue.unpack (args.getD 0 (.tuple #[]))) := fun args w => run_callFunc_extern (e := (fun args => Extern.ReflectliteValue.unpack (args.getD 0 (.tuple #[])))) Tryd.func42 (by kernel_rfl) (by kernel_rfl) (by kernel_rfl) (by kernel_rfl) args w
theorem xt43 : ExtOk Tryd.prog 43 (Extern.ReflectliteValue.methodAny (Extern.ReflectliteValue.valueError "reflectlite.Value.Type" 0) (fun t _ _ _ => Extern.ReflectliteType.toType t)) := fun args w => run_callFunc_extern (e := (Extern.ReflectliteValue.methodAny (Extern.ReflectliteValue.valueError "reflectlite.Value.Type" 0) (fun t _ _ _ => Extern.ReflectliteType.toType t))) Tryd.func43 (by kernel_rfl) (by kernel_rfl) (by kernel_rfl) (by kernel_rfl) args w
theorem xt44 : ExtOk Tryd.prog 44 (Extern.ReflectliteValue.method (Extern.ReflectliteValue.valueError "reflectlite.Value.IsNil" 0) Extern.ReflectliteValue.isNil) := fun args w => run_callFunc_extern (e := (Extern.ReflectliteValue.method (Extern.ReflectliteValue.valueError "reflectlite.Value.IsNil" 0) Extern.ReflectliteValue.isNil)) Tryd.func44 (by kernel_rfl) (by kernel_rfl) (by kernel_rfl) (by kernel_rfl) args w
theorem xt49 : ExtOk Tryd.prog 49 Extern.ReflectliteType.typeOf := fun args w => run_callFunc_extern (e := Extern.ReflectliteType.typeOf) Tryd.func49 (by kernel_rfl) (by kernel_rfl) (by kernel_rfl) (by kernel_rfl) args w
theorem xt51 : ExtOk Tryd.prog 51 (Extern.ReflectliteValue.method (Extern.ReflectliteValue.valueError "reflectlite.Value.Elem" 0) Extern.ReflectliteValue.elem) := fun args w => run_callFunc_extern (e := (Extern.ReflectliteValue.method (Extern.ReflectliteValue.valueError "reflectlite.Value.Elem" 0) Extern.ReflectliteValue.elem)) Tryd.func51 (by kernel_rfl) (by kernel_rfl) (by kernel_rfl) (by kernel_rfl) args w
theorem xt52 : ExtOk Tryd.prog 52 Extern.ReflectliteValue.set := fun args w => run_callFunc_extern (e := Extern.ReflectliteValue.set) Tryd.func52 (by kernel_rfl) (by kernel_rfl) (by kernel_rfl) (by kernel_rfl) args w
theorem xt67 : ExtOk Tryd.prog 67 (Extern.ReflectliteType.abiMethod fun t => do pure (.int .u8 (← Extern.Rtype.kind t))) := fun args w => run_callFunc_extern (e := (Extern.ReflectliteType.abiMethod fun t => do pure (.int .u8 (← Extern.Rtype.kind t)))) Tryd.func67 (by kernel_rfl) (by kernel_rfl) (by kernel_rfl) (by kernel_rfl) args w
theorem xt78 : ExtOk Tryd.prog 78 (Extern.ReflectliteType.relation "AssignableTo" Extern.ReflectliteType.assignableTo) := fun args w => run_callFunc_extern (e := (Extern.ReflectliteType.relation "AssignableTo" Extern.ReflectliteType.assignableTo)) Tryd.func78 (by kernel_rfl) (by kernel_rfl) (by kernel_rfl) (by kernel_rfl) args w
theorem xt79 : ExtOk Tryd.prog 79 (Extern.ReflectliteType.method fun t => do Extern.Rtype.noPackHeld "Comparable" t; pure (.bool (← typeInfo t).comparable)) := fun args w => run_callFunc_extern (e := (Extern.ReflectliteType.method fun t => do Extern.Rtype.noPackHeld "Comparable" t; pure (.bool (← typeInfo t).comparable))) Tryd.func79 (by kernel_rfl) (by kernel_rfl) (by kernel_rfl) (by kernel_rfl) args w
theorem xt80 : ExtOk Tryd.prog 80 (Extern.ReflectliteType.method Extern.ReflectliteType.elem) := fun args w => run_callFunc_extern (e := (Extern.ReflectliteType.method Extern.ReflectliteType.elem)) Tryd.func80 (by kernel_rfl) (by kernel_rfl) (by kernel_rfl) (by kernel_rfl) args w
theorem xt81 : ExtOk Tryd.prog 81 (Extern.ReflectliteType.relation "Implements" Extern.ReflectliteType.implements_) := fun args w => run_callFunc_extern (e := (Extern.ReflectliteType.relation "Implements" Extern.ReflectliteType.implements_)) Tryd.func81 (by kernel_rfl) (by kernel_rfl) (by kernel_rfl) (by kernel_rfl) args w
theorem ze24 : (Tryd.prog.info? 24).map (·.zero) = some (some (.agg #[(.slice none 0 0), (.int .i64 (0 : Int))])) := by kernel_rfl
theorem ze35 : (Tryd.prog.info? 35).map (·.zero) = some (some (.int .i64 (0 : Int))) := by kernel_rfl
theorem ze63 : (Tryd.prog.info? 63).map (·.zero) = some (some (.agg #[(.string (⟨#[]⟩ : ByteArray)), (.int .i64 (0 : Int))])) := by kernel_rfl
theorem ze65 : (Tryd.prog.info? 65).map (·.zero) = some (some (.agg #[(.string (⟨#[]⟩ : ByteArray)), (.int .i64 (0 : Int)), (.nilIface)])) := by kernel_rfl
theorem ze85 : (Tryd.prog.info? 85).map (·.zero) = some (some (.agg #[(.string (⟨#[]⟩ : ByteArray))])) := by kernel_rfl
theorem ze89 : (Tryd.prog.info? 89).map (·.zero) = some (some (.agg #[(.pointer none), (.pointer none), (.int .u64 (0 : Int))])) := by kernel_rfl
theorem zo111 : (Tryd.prog.info? 111).map (·.zero) = some (some .nilIface) := by kernel_rfl
theorem zo113 : (Tryd.prog.info? 113).map (·.zero) = some (some .nilIface) := by kernel_rfl
theorem zo117 : (Tryd.prog.info? 117).map (·.zero) = some (some .nilIface) := by kernel_rfl
theorem mixed : Tryd.prog.follows .mixedOrders = true := by kernel_rfl

end Go.Proofs.YtmifmgpfjamdkaaDoor.G
