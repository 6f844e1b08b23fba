/- Closed facts on the program's types. Printed by a program of the session (gen). -/
import Derived.Test.YtdlilclopmhiaaaDoorWT
import Derived.Test.YtdlilclopmhiaaaDoorProg
set_option linter.unusedVariables false
set_option linter.unusedSimpArgs false
namespace Go.Proofs.YtdlilclopmhiaaaDoor.G
open Go Go.KK

def Env (M : IM) : Prop := M.cell ⟨0, 0, none⟩ = some (.iface 108 (.agg #[(.pointer (some ⟨1, 45, none⟩))]))
theorem Env.mono {M M' : IM} (h : Env M) (hle : M.le M') : Env M' := hle.cell h
theorem ag52 : aggB Tryd.prog 52 = true := by kernel_rfl
theorem ag55 : aggB Tryd.prog 55 = true := by kernel_rfl
theorem ag63 : aggB Tryd.prog 63 = true := by kernel_rfl
theorem ag78 : aggB Tryd.prog 78 = true := by kernel_rfl
theorem ag94 : aggB Tryd.prog 94 = true := by kernel_rfl
theorem cc56 : Tryd.prog.concrete 56 = true := by kernel_rfl
theorem cc76 : Tryd.prog.concrete 76 = true := by kernel_rfl
theorem cc78 : Tryd.prog.concrete 78 = true := by kernel_rfl
theorem cc79 : Tryd.prog.concrete 79 = true := by kernel_rfl
theorem cm56 : (Tryd.prog.info? 56).map (·.comparable) = some true := by kernel_rfl
theorem co10 : callOk Tryd.prog 10 = true := by kernel_rfl
theorem co11 : callOk Tryd.prog 11 = true := by kernel_rfl
theorem co12 : callOk Tryd.prog 12 = true := by kernel_rfl
theorem co13 : callOk Tryd.prog 13 = true := by kernel_rfl
theorem co14 : callOk Tryd.prog 14 = true := by kernel_rfl
theorem co15 : callOk Tryd.prog 15 = true := by kernel_rfl
theorem co16 : callOk Tryd.prog 16 = true := by kernel_rfl
theorem co17 : callOk Tryd.prog 17 = true := by kernel_rfl
theorem co18 : callOk Tryd.prog 18 = true := by kernel_rfl
theorem co19 : callOk Tryd.prog 19 = true := by kernel_rfl
theorem co20 : callOk Tryd.prog 20 = true := by kernel_rfl
theorem co21 : callOk Tryd.prog 21 = true := by kernel_rfl
theorem co22 : callOk Tryd.prog 22 = true := by kernel_rfl
theorem co23 : callOk Tryd.prog 23 = true := by kernel_rfl
theorem co24 : callOk Tryd.prog 24 = true := by kernel_rfl
theorem co25 : callOk Tryd.prog 25 = true := by kernel_rfl
theorem co26 : callOk Tryd.prog 26 = true := by kernel_rfl
theorem co27 : callOk Tryd.prog 27 = true := by kernel_rfl
theorem co28 : callOk Tryd.prog 28 = true := by kernel_rfl
theorem co29 : callOk Tryd.prog 29 = true := by kernel_rfl
theorem co30 : callOk Tryd.prog 30 = true := by kernel_rfl
theorem co31 : callOk Tryd.prog 31 = true := by kernel_rfl
theorem co32 : callOk Tryd.prog 32 = true := by kernel_rfl
theorem co33 : callOk Tryd.prog 33 = true := by kernel_rfl
theorem co34 : callOk Tryd.prog 34 = true := by kernel_rfl
theorem co35 : callOk Tryd.prog 35 = true := by kernel_rfl
theorem co36 : callOk Tryd.prog 36 = true := by kernel_rfl
theorem co37 : callOk Tryd.prog 37 = true := by kernel_rfl
theorem co38 : callOk Tryd.prog 38 = true := by kernel_rfl
theorem co39 : callOk Tryd.prog 39 = true := by kernel_rfl
theorem co40 : callOk Tryd.prog 40 = true := by kernel_rfl
theorem co41 : callOk Tryd.prog 41 = true := by kernel_rfl
theorem co42 : callOk Tryd.prog 42 = true := by kernel_rfl
theorem co43 : callOk Tryd.prog 43 = true := by kernel_rfl
theorem co44 : callOk Tryd.prog 44 = true := by kernel_rfl
theorem co45 : callOk Tryd.prog 45 = true := by kernel_rfl
theorem co46 : callOk Tryd.prog 46 = true := by kernel_rfl
theorem co47 : callOk Tryd.prog 47 = true := by kernel_rfl
theorem co48 : callOk Tryd.prog 48 = true := by kernel_rfl
theorem co49 : callOk Tryd.prog 49 = true := by kernel_rfl
theorem co50 : callOk Tryd.prog 50 = true := by kernel_rfl
theorem co54 : callOk Tryd.prog 54 = true := by kernel_rfl
theorem co55 : callOk Tryd.prog 55 = true := by kernel_rfl
theorem co57 : callOk Tryd.prog 57 = true := by kernel_rfl
theorem co79 : callOk Tryd.prog 79 = true := by kernel_rfl
theorem co8 : callOk Tryd.prog 8 = true := by kernel_rfl
theorem co9 : callOk Tryd.prog 9 = true := by kernel_rfl
theorem da56 (w : World) : (Extern.Rtype.directlyAssignable 56 56).run Tryd.prog w = .ok true w := by kernel_rfl
theorem da78 (w : World) : (Extern.Rtype.directlyAssignable 78 78).run Tryd.prog w = .ok true w := by kernel_rfl
theorem el76 (w : World) : (Extern.Rtype.elem? 76).run Tryd.prog w = .ok (some 56) w := by kernel_rfl
theorem el79 (w : World) : (Extern.Rtype.elem? 79).run Tryd.prog w = .ok (some 78) w := by kernel_rfl
theorem fo52_0 : fldOff Tryd.prog 52 0 = some 0 := by kernel_rfl
theorem fo52_1 : fldOff Tryd.prog 52 1 = some 1 := by kernel_rfl
theorem fo52_2 : fldOff Tryd.prog 52 2 = some 2 := by kernel_rfl
theorem fo52_3 : fldOff Tryd.prog 52 3 = some 3 := by kernel_rfl
theorem fo55_0 : fldOff Tryd.prog 55 0 = some 0 := by kernel_rfl
theorem fo55_1 : fldOff Tryd.prog 55 1 = some 1 := by kernel_rfl
theorem fo55_2 : fldOff Tryd.prog 55 2 = some 2 := by kernel_rfl
theorem fo63_0 : fldOff Tryd.prog 63 0 = some 0 := by kernel_rfl
theorem fo63_1 : fldOff Tryd.prog 63 1 = some 1 := by kernel_rfl
theorem fo63_2 : fldOff Tryd.prog 63 2 = some 2 := by kernel_rfl
theorem fo63_3 : fldOff Tryd.prog 63 3 = some 3 := by kernel_rfl
theorem fo73_0 : fldOff Tryd.prog 73 0 = some 0 := by kernel_rfl
theorem fo73_1 : fldOff Tryd.prog 73 1 = some 1 := by kernel_rfl
theorem fo73_2 : fldOff Tryd.prog 73 2 = some 2 := by kernel_rfl
theorem fo78_0 : fldOff Tryd.prog 78 0 = some 0 := by kernel_rfl
theorem fo78_1 : fldOff Tryd.prog 78 1 = some 1 := by kernel_rfl
theorem fo78_2 : fldOff Tryd.prog 78 2 = some 2 := by kernel_rfl
theorem fp52 : fldPlace Tryd.prog 52 = some [(0, 1), (1, 1), (2, 1), (3, 1)] := by kernel_rfl
theorem fp63 : fldPlace Tryd.prog 63 = some [(0, 1), (1, 1), (2, 1), (3, 1)] := by kernel_rfl
theorem fp73 : fldPlace Tryd.prog 73 = some [(0, 1), (1, 1), (2, 1)] := by kernel_rfl
theorem fp78 : fldPlace Tryd.prog 78 = some [(0, 1), (1, 1), (2, 1)] := by kernel_rfl
theorem ha78_115 (v : Value) (xT : TypeId) (w : World) : (Instr.typeAssert (.iface 78 v) xT 115 true).run Tryd.prog w = .ok (.tuple #[.iface 78 v, .bool true]) w := run_typeAssert_hasB Tryd.underlying115 (by kernel_rfl) v xT w
theorem in3 : (Tryd.prog.info? 3).map (fun i => (i.size, i.bytes, i.zero)) = some (1, 8, some (.int .i64 (0 : Int))) := by kernel_rfl
theorem in5 : (Tryd.prog.info? 5).map (fun i => (i.size, i.bytes, i.zero)) = some (1, 1, some (.int .u8 (0 : Int))) := by kernel_rfl
theorem in9 : (Tryd.prog.info? 9).map (fun i => (i.size, i.bytes, i.zero)) = some (1, 16, some (.string (⟨#[]⟩ : ByteArray))) := by kernel_rfl
theorem iz3 : (Tryd.prog.info? 3).map (fun i => (i.size, i.zero)) = some (1, some (.int .i64 (0 : Int))) := by kernel_rfl
theorem iz5 : (Tryd.prog.info? 5).map (fun i => (i.size, i.zero)) = some (1, some (.int .u8 (0 : Int))) := by kernel_rfl
theorem iz9 : (Tryd.prog.info? 9).map (fun i => (i.size, i.zero)) = some (1, some (.string (⟨#[]⟩ : ByteArray))) := by kernel_rfl
theorem la0_112 (v : Value) (xT : TypeId) (w : World) : (Instr.typeAssert (.iface 0 v) xT 112 true).run Tryd.prog w = .ok (.tuple #[.nilIface, .bool false]) w := run_typeAssert_lacksB Tryd.underlying112 (by kernel_rfl) (by kernel_rfl) v xT w
theorem la0_115 (v : Value) (xT : TypeId) (w : World) : (Instr.typeAssert (.iface 0 v) xT 115 true).run Tryd.prog w = .ok (.tuple #[.nilIface, .bool false]) w := run_typeAssert_lacksB Tryd.underlying115 (by kernel_rfl) (by kernel_rfl) v xT w
theorem la0_116 (v : Value) (xT : TypeId) (w : World) : (Instr.typeAssert (.iface 0 v) xT 116 true).run Tryd.prog w = .ok (.tuple #[.nilIface, .bool false]) w := run_typeAssert_lacksB Tryd.underlying116 (by kernel_rfl) (by kernel_rfl) v xT w
theorem la0_119 (v : Value) (xT : TypeId) (w : World) : (Instr.typeAssert (.iface 0 v) xT 119 true).run Tryd.prog w = .ok (.tuple #[.nilIface, .bool false]) w := run_typeAssert_lacksB Tryd.underlying119 (by kernel_rfl) (by kernel_rfl) v xT w
theorem la56_112 (v : Value) (xT : TypeId) (w : World) : (Instr.typeAssert (.iface 56 v) xT 112 true).run Tryd.prog w = .ok (.tuple #[.nilIface, .bool false]) w := run_typeAssert_lacksB Tryd.underlying112 (by kernel_rfl) (by kernel_rfl) v xT w
theorem la56_115 (v : Value) (xT : TypeId) (w : World) : (Instr.typeAssert (.iface 56 v) xT 115 true).run Tryd.prog w = .ok (.tuple #[.nilIface, .bool false]) w := run_typeAssert_lacksB Tryd.underlying115 (by kernel_rfl) (by kernel_rfl) v xT w
theorem la56_116 (v : Value) (xT : TypeId) (w : World) : (Instr.typeAssert (.iface 56 v) xT 116 true).run Tryd.prog w = .ok (.tuple #[.nilIface, .bool false]) w := run_typeAssert_lacksB Tryd.underlying116 (by kernel_rfl) (by kernel_rfl) v xT w
theorem la56_119 (v : Value) (xT : TypeId) (w : World) : (Instr.typeAssert (.iface 56 v) xT 119 true).run Tryd.prog w = .ok (.tuple #[.nilIface, .bool false]) w := run_typeAssert_lacksB Tryd.underlying119 (by kernel_rfl) (by kernel_rfl) v xT w
theorem la78_112 (v : Value) (xT : TypeId) (w : World) : (Instr.typeAssert (.iface 78 v) xT 112 true).run Tryd.prog w = .ok (.tuple #[.nilIface, .bool false]) w := run_typeAssert_lacksB Tryd.underlying112 (by kernel_rfl) (by kernel_rfl) v xT w
theorem la78_119 (v : Value) (xT : TypeId) (w : World) : (Instr.typeAssert (.iface 78 v) xT 119 true).run Tryd.prog w = .ok (.tuple #[.nilIface, .bool false]) w := run_typeAssert_lacksB Tryd.underlying119 (by kernel_rfl) (by kernel_rfl) v xT w
theorem me78_Unwrap (v : Value) (w : World) : (method (mdepth Tryd.prog) 78 v "Unwrap").run Tryd.prog w = .ok (79, v) w := by kernel_rfl
theorem mk56 (p : Addr) (w : World) : (Extern.ReflectliteValue.mk 56 p Extern.ReflectliteValue.flagAddr).run Tryd.prog w = .ok (.agg #[(.pointer (some ⟨1, 56, none⟩)), .pointer (some p), .int .u64 386]) w := by kernel_rfl
theorem mk78 (p : Addr) (w : World) : (Extern.ReflectliteValue.mk 78 p Extern.ReflectliteValue.flagAddr).run Tryd.prog w = .ok (.agg #[(.pointer (some ⟨1, 78, none⟩)), .pointer (some p), .int .u64 409]) w := by kernel_rfl
theorem mm_AssignableTo (h : Value) (w : World) : (method (mdepth Tryd.prog) 108 (.agg #[h]) "AssignableTo").run Tryd.prog w = .ok (84, .agg #[h]) w := by kernel_rfl
theorem mm_Comparable (h : Value) (w : World) : (method (mdepth Tryd.prog) 108 (.agg #[h]) "Comparable").run Tryd.prog w = .ok (85, .agg #[h]) w := by kernel_rfl
theorem mm_Elem (h : Value) (w : World) : (method (mdepth Tryd.prog) 108 (.agg #[h]) "Elem").run Tryd.prog w = .ok (86, .agg #[h]) w := by kernel_rfl
theorem mm_Implements (h : Value) (w : World) : (method (mdepth Tryd.prog) 108 (.agg #[h]) "Implements").run Tryd.prog w = .ok (87, .agg #[h]) w := by kernel_rfl
theorem mm_Kind (h : Value) (w : World) : (method (mdepth Tryd.prog) 108 (.agg #[h]) "Kind").run Tryd.prog w = .ok (74, h) w := by kernel_rfl
theorem mr_AssignableTo_0_56 (w : World) : ((Extern.ReflectliteType.relation "AssignableTo" Extern.ReflectliteType.assignableTo) #[.agg #[(.pointer (some ⟨1, 0, none⟩))], (.iface 108 (.agg #[.pointer (some ⟨1, 56, none⟩)]))]).run Tryd.prog w = .ok (.bool false) w := by kernel_rfl
theorem mr_AssignableTo_0_78 (w : World) : ((Extern.ReflectliteType.relation "AssignableTo" Extern.ReflectliteType.assignableTo) #[.agg #[(.pointer (some ⟨1, 0, none⟩))], (.iface 108 (.agg #[.pointer (some ⟨1, 78, none⟩)]))]).run Tryd.prog w = .ok (.bool false) w := by kernel_rfl
theorem mr_AssignableTo_56_56 (w : World) : ((Extern.ReflectliteType.relation "AssignableTo" Extern.ReflectliteType.assignableTo) #[.agg #[(.pointer (some ⟨1, 56, none⟩))], (.iface 108 (.agg #[.pointer (some ⟨1, 56, none⟩)]))]).run Tryd.prog w = .ok (.bool true) w := by kernel_rfl
theorem mr_AssignableTo_56_78 (w : World) : ((Extern.ReflectliteType.relation "AssignableTo" Extern.ReflectliteType.assignableTo) #[.agg #[(.pointer (some ⟨1, 56, none⟩))], (.iface 108 (.agg #[.pointer (some ⟨1, 78, none⟩)]))]).run Tryd.prog w = .ok (.bool false) w := by kernel_rfl
theorem mr_AssignableTo_78_56 (w : World) : ((Extern.ReflectliteType.relation "AssignableTo" Extern.ReflectliteType.assignableTo) #[.agg #[(.pointer (some ⟨1, 78, none⟩))], (.iface 108 (.agg #[.pointer (some ⟨1, 56, none⟩)]))]).run Tryd.prog w = .ok (.bool false) w := by kernel_rfl
theorem mr_AssignableTo_78_78 (w : World) : ((Extern.ReflectliteType.relation "AssignableTo" Extern.ReflectliteType.assignableTo) #[.agg #[(.pointer (some ⟨1, 78, none⟩))], (.iface 108 (.agg #[.pointer (some ⟨1, 78, none⟩)]))]).run Tryd.prog w = .ok (.bool true) w := by kernel_rfl
theorem mr_Comparable_56 (w : World) : ((Extern.ReflectliteType.method fun t => do Extern.Rtype.noPackHeld "Comparable" t; pure (.bool (← typeInfo t).comparable)) #[.agg #[(.pointer (some ⟨1, 56, none⟩))]]).run Tryd.prog w = .ok (.bool true) w := by kernel_rfl
theorem mr_Elem_76 (w : World) : ((Extern.ReflectliteType.method Extern.ReflectliteType.elem) #[.agg #[(.pointer (some ⟨1, 76, none⟩))]]).run Tryd.prog w = .ok (.iface 108 (.agg #[.pointer (some ⟨1, 56, none⟩)])) w := by kernel_rfl
theorem mr_Elem_79 (w : World) : ((Extern.ReflectliteType.method Extern.ReflectliteType.elem) #[.agg #[(.pointer (some ⟨1, 79, none⟩))]]).run Tryd.prog w = .ok (.iface 108 (.agg #[.pointer (some ⟨1, 78, none⟩)])) w := by kernel_rfl
theorem mr_Implements_56_45 (w : World) : ((Extern.ReflectliteType.relation "Implements" Extern.ReflectliteType.implements_) #[.agg #[(.pointer (some ⟨1, 56, none⟩))], (.iface 108 (.agg #[.pointer (some ⟨1, 45, none⟩)]))]).run Tryd.prog w = .ok (.bool true) w := by kernel_rfl
theorem mr_Implements_78_45 (w : World) : ((Extern.ReflectliteType.relation "Implements" Extern.ReflectliteType.implements_) #[.agg #[(.pointer (some ⟨1, 78, none⟩))], (.iface 108 (.agg #[.pointer (some ⟨1, 45, none⟩)]))]).run Tryd.prog w = .ok (.bool true) w := by kernel_rfl
theorem mr_Kind_56 (w : World) : ((Extern.ReflectliteType.abiMethod fun t => do pure (.int .u8 (← Extern.Rtype.kind t))) #[(.pointer (some ⟨1, 56, none⟩))]).run Tryd.prog w = .ok (.int .u8 (2 : Int)) w := by kernel_rfl
theorem mr_Kind_76 (w : World) : ((Extern.ReflectliteType.abiMethod fun t => do pure (.int .u8 (← Extern.Rtype.kind t))) #[(.pointer (some ⟨1, 76, none⟩))]).run Tryd.prog w = .ok (.int .u8 (22 : Int)) w := by kernel_rfl
theorem mr_Kind_78 (w : World) : ((Extern.ReflectliteType.abiMethod fun t => do pure (.int .u8 (← Extern.Rtype.kind t))) #[(.pointer (some ⟨1, 78, none⟩))]).run Tryd.prog w = .ok (.int .u8 (25 : Int)) w := by kernel_rfl
theorem mr_Kind_79 (w : World) : ((Extern.ReflectliteType.abiMethod fun t => do pure (.int .u8 (← Extern.Rtype.kind t))) #[(.pointer (some ⟨1, 79, none⟩))]).run Tryd.prog w = .ok (.int .u8 (22 : Int)) w := by kernel_rfl
theorem pl22 : plainT Tryd.prog 22 = true := by kernel_rfl
theorem pl23 : plainT Tryd.prog 23 = true := by kernel_rfl
theorem pl24 : plainT Tryd.prog 24 = true := by kernel_rfl
theorem pl3 : plainT Tryd.prog 3 = true := by kernel_rfl
theorem pl4 : plainT Tryd.prog 4 = true := by kernel_rfl
theorem pl45 : plainT Tryd.prog 45 = true := by kernel_rfl
theorem pl5 : plainT Tryd.prog 5 = true := by kernel_rfl
theorem pl56 : plainT Tryd.prog 56 = true := by kernel_rfl
theorem pl76 : plainT Tryd.prog 76 = true := by kernel_rfl
theorem pl79 : plainT Tryd.prog 79 = true := by kernel_rfl
theorem pl9 : plainT Tryd.prog 9 = true := by kernel_rfl
theorem pl97 : plainT Tryd.prog 97 = true := by kernel_rfl
theorem pp56_130 (a : Addr) (w : World) : (Extern.ReflectliteValue.parts (.agg #[(.pointer (some ⟨1, 56, none⟩)), .pointer (some a), .int .u64 130])).run Tryd.prog w = .ok (some (56, a, 130)) w := by kernel_rfl
theorem pp56_386 (a : Addr) (w : World) : (Extern.ReflectliteValue.parts (.agg #[(.pointer (some ⟨1, 56, none⟩)), .pointer (some a), .int .u64 386])).run Tryd.prog w = .ok (some (56, a, 386)) w := by kernel_rfl
theorem pp76_150 (a : Addr) (w : World) : (Extern.ReflectliteValue.parts (.agg #[(.pointer (some ⟨1, 76, none⟩)), .pointer (some a), .int .u64 150])).run Tryd.prog w = .ok (some (76, a, 150)) w := by kernel_rfl
theorem pp78_153 (a : Addr) (w : World) : (Extern.ReflectliteValue.parts (.agg #[(.pointer (some ⟨1, 78, none⟩)), .pointer (some a), .int .u64 153])).run Tryd.prog w = .ok (some (78, a, 153)) w := by kernel_rfl
theorem pp78_409 (a : Addr) (w : World) : (Extern.ReflectliteValue.parts (.agg #[(.pointer (some ⟨1, 78, none⟩)), .pointer (some a), .int .u64 409])).run Tryd.prog w = .ok (some (78, a, 409)) w := by kernel_rfl
theorem pp79_150 (a : Addr) (w : World) : (Extern.ReflectliteValue.parts (.agg #[(.pointer (some ⟨1, 79, none⟩)), .pointer (some a), .int .u64 150])).run Tryd.prog w = .ok (some (79, a, 150)) w := by kernel_rfl
theorem sz22 : (Tryd.prog.info? 22).map (·.size) = some 1 := by kernel_rfl
theorem sz23 : (Tryd.prog.info? 23).map (·.size) = some 1 := by kernel_rfl
theorem sz3 : (Tryd.prog.info? 3).map (·.size) = some 1 := by kernel_rfl
theorem sz45 : (Tryd.prog.info? 45).map (·.size) = some 1 := by kernel_rfl
theorem sz5 : (Tryd.prog.info? 5).map (·.size) = some 1 := by kernel_rfl
theorem sz52 : (Tryd.prog.info? 52).map (·.size) = some 4 := by kernel_rfl
theorem sz55 : (Tryd.prog.info? 55).map (·.size) = some 3 := by kernel_rfl
theorem sz56 : (Tryd.prog.info? 56).map (·.size) = some 1 := by kernel_rfl
theorem sz63 : (Tryd.prog.info? 63).map (·.size) = some 4 := by kernel_rfl
theorem sz78 : (Tryd.prog.info? 78).map (·.size) = some 3 := by kernel_rfl
theorem sz9 : (Tryd.prog.info? 9).map (·.size) = some 1 := by kernel_rfl
theorem sz94 : (Tryd.prog.info? 94).map (·.size) = some 3 := by kernel_rfl
theorem ty0 (v : Value) (w : World) : (Extern.ReflectliteType.typeOf #[.iface 0 v]).run Tryd.prog w = .ok (.iface 108 (.agg #[(.pointer (some ⟨1, 0, none⟩))])) w := by kernel_rfl
theorem ty56 (v : Value) (w : World) : (Extern.ReflectliteType.typeOf #[.iface 56 v]).run Tryd.prog w = .ok (.iface 108 (.agg #[(.pointer (some ⟨1, 56, none⟩))])) w := by kernel_rfl
theorem ty78 (v : Value) (w : World) : (Extern.ReflectliteType.typeOf #[.iface 78 v]).run Tryd.prog w = .ok (.iface 108 (.agg #[(.pointer (some ⟨1, 78, none⟩))])) w := by kernel_rfl
theorem tyNil (w : World) : (Extern.ReflectliteType.typeOf #[.nilIface]).run Tryd.prog w = .ok .nilIface w := by kernel_rfl
theorem us23 : (Tryd.prog.underlying 23).isSome = true := by kernel_rfl
theorem us3 : (Tryd.prog.underlying 3).isSome = true := by kernel_rfl
theorem us5 : (Tryd.prog.underlying 5).isSome = true := by kernel_rfl
theorem vo56 (n : Int) (w : World) : (Extern.ReflectliteValue.unpack (.iface 56 (.int .i64 n))).run Tryd.prog w = .ok (.agg #[(.pointer (some ⟨1, 56, none⟩)), .pointer (some ⟨w.heap.size, 0, none⟩), .int .u64 130]) (w.alloc (.cells #[.int .i64 n] 56)) := by kernel_rfl
theorem vo76 (p : Addr) (w : World) : (Extern.ReflectliteValue.unpack (.iface 76 (.pointer (some p)))).run Tryd.prog w = .ok (.agg #[(.pointer (some ⟨1, 76, none⟩)), .pointer (some ⟨w.heap.size, 0, none⟩), .int .u64 150]) (w.alloc (.cells #[.pointer (some p)] 76)) := by kernel_rfl
theorem vo78 (o : ByteArray) (n : Int) (e : Value) (w : World) : (Extern.ReflectliteValue.unpack (.iface 78 (.agg #[.string o, .int .i64 n, e]))).run Tryd.prog w = .ok (.agg #[(.pointer (some ⟨1, 78, none⟩)), .pointer (some ⟨w.heap.size, 0, none⟩), .int .u64 153]) (w.alloc (.cells #[.string o, .int .i64 n, e] 78)) := by kernel_rfl
theorem vo79 (p : Addr) (w : World) : (Extern.ReflectliteValue.unpack (.iface 79 (.pointer (some p)))).run Tryd.prog w = .ok (.agg #[(.pointer (some ⟨1, 79, none⟩)), .pointer (some ⟨w.heap.size, 0, none⟩), .int .u64 150]) (w.alloc (.cells #[.pointer (some p)] 79)) := by kernel_rfl
theorem vt76_150 (a : Addr) (w : World) : ((Extern.ReflectliteValue.methodAny (Extern.ReflectliteValue.valueError "reflectlite.Value.Type" 0) (fun t _ _ _ => Extern.ReflectliteType.toType t)) #[.agg #[(.pointer (some ⟨1, 76, none⟩)), .pointer (some a), .int .u64 150]]).run Tryd.prog w = .ok (.iface 108 (.agg #[(.pointer (some ⟨1, 76, none⟩))])) w := by kernel_rfl
theorem vt79_150 (a : Addr) (w : World) : ((Extern.ReflectliteValue.methodAny (Extern.ReflectliteValue.valueError "reflectlite.Value.Type" 0) (fun t _ _ _ => Extern.ReflectliteType.toType t)) #[.agg #[(.pointer (some ⟨1, 79, none⟩)), .pointer (some a), .int .u64 150]]).run Tryd.prog w = .ok (.iface 108 (.agg #[(.pointer (some ⟨1, 79, none⟩))])) w := by kernel_rfl
theorem xt51 : ExtOk Tryd.prog 51 (fun args => Extern.ReflectliteValue.unpack (args.getD 0 (.tuple #[]))) := fun args w => run_callFunc_extern (e := (fun args => Extern.ReflectliteValue.unpack (args.getD 0 (.tuple #[])))) Tryd.func51 (by kernel_rfl) (by kernel_rfl) (by kernel_rfl) (by kernel_rfl) args w
theorem xt52 : ExtOk Tryd.prog 52 (Extern.ReflectliteValue.methodAny (Extern.ReflectliteValue.valueError "reflectlite.Value.Type" 0) (fun t _ _ _ => Extern.ReflectliteType.toType t)) := fun args w => run_callFunc_extern (e := (Extern.ReflectliteValue.methodAny (Extern.ReflectliteValue.valueError "reflectlite.Value.Type" 0) (fun t _ _ _ => Extern.ReflectliteType.toType t))) Tryd.func52 (by kernel_rfl) (by kernel_rfl) (by kernel_rfl) (by kernel_rfl) args w
theorem xt53 : ExtOk Tryd.prog 53 (Extern.ReflectliteValue.method (Extern.ReflectliteValue.valueError "reflectlite.Value.IsNil" 0) Extern.ReflectliteValue.isNil) := fun args w => run_callFunc_extern (e := (Extern.ReflectliteValue.method (Extern.ReflectliteValue.valueError "reflectlite.Value.IsNil" 0) Extern.ReflectliteValue.isNil)) Tryd.func53 (by kernel_rfl) (by kernel_rfl) (by kernel_rfl) (by kernel_rfl) args w
theorem xt56 : ExtOk Tryd.prog 56 Extern.ReflectliteType.typeOf := fun args w => run_callFunc_extern (e := Extern.ReflectliteType.typeOf) Tryd.func56 (by kernel_rfl) (by kernel_rfl) (by kernel_rfl) (by kernel_rfl) args w
theorem xt58 : ExtOk Tryd.prog 58 (Extern.ReflectliteValue.method (Extern.ReflectliteValue.valueError "reflectlite.Value.Elem" 0) Extern.ReflectliteValue.elem) := fun args w => run_callFunc_extern (e := (Extern.ReflectliteValue.method (Extern.ReflectliteValue.valueError "reflectlite.Value.Elem" 0) Extern.ReflectliteValue.elem)) Tryd.func58 (by kernel_rfl) (by kernel_rfl) (by kernel_rfl) (by kernel_rfl) args w
theorem xt59 : ExtOk Tryd.prog 59 Extern.ReflectliteValue.set := fun args w => run_callFunc_extern (e := Extern.ReflectliteValue.set) Tryd.func59 (by kernel_rfl) (by kernel_rfl) (by kernel_rfl) (by kernel_rfl) args w
theorem xt74 : ExtOk Tryd.prog 74 (Extern.ReflectliteType.abiMethod fun t => do pure (.int .u8 (← Extern.Rtype.kind t))) := fun args w => run_callFunc_extern (e := (Extern.ReflectliteType.abiMethod fun t => do pure (.int .u8 (← Extern.Rtype.kind t)))) Tryd.func74 (by kernel_rfl) (by kernel_rfl) (by kernel_rfl) (by kernel_rfl) args w
theorem xt84 : ExtOk Tryd.prog 84 (Extern.ReflectliteType.relation "AssignableTo" Extern.ReflectliteType.assignableTo) := fun args w => run_callFunc_extern (e := (Extern.ReflectliteType.relation "AssignableTo" Extern.ReflectliteType.assignableTo)) Tryd.func84 (by kernel_rfl) (by kernel_rfl) (by kernel_rfl) (by kernel_rfl) args w
theorem xt85 : ExtOk Tryd.prog 85 (Extern.ReflectliteType.method fun t => do Extern.Rtype.noPackHeld "Comparable" t; pure (.bool (← typeInfo t).comparable)) := fun args w => run_callFunc_extern (e := (Extern.ReflectliteType.method fun t => do Extern.Rtype.noPackHeld "Comparable" t; pure (.bool (← typeInfo t).comparable))) Tryd.func85 (by kernel_rfl) (by kernel_rfl) (by kernel_rfl) (by kernel_rfl) args w
theorem xt86 : ExtOk Tryd.prog 86 (Extern.ReflectliteType.method Extern.ReflectliteType.elem) := fun args w => run_callFunc_extern (e := (Extern.ReflectliteType.method Extern.ReflectliteType.elem)) Tryd.func86 (by kernel_rfl) (by kernel_rfl) (by kernel_rfl) (by kernel_rfl) args w
theorem xt87 : ExtOk Tryd.prog 87 (Extern.ReflectliteType.relation "Implements" Extern.ReflectliteType.implements_) := fun args w => run_callFunc_extern (e := (Extern.ReflectliteType.relation "Implements" Extern.ReflectliteType.implements_)) Tryd.func87 (by kernel_rfl) (by kernel_rfl) (by kernel_rfl) (by kernel_rfl) args w
theorem ze22 : (Tryd.prog.info? 22).map (·.zero) = some (some (.slice none 0 0)) := by kernel_rfl
theorem ze23 : (Tryd.prog.info? 23).map (·.zero) = some (some (.int .u64 (0 : Int))) := by kernel_rfl
theorem ze3 : (Tryd.prog.info? 3).map (·.zero) = some (some (.int .i64 (0 : Int))) := by kernel_rfl
theorem ze52 : (Tryd.prog.info? 52).map (·.zero) = some (some (.agg #[(.int .u64 (0 : Int)), (.bool false), (.slice none 0 0), (.slice none 0 0)])) := by kernel_rfl
theorem ze56 : (Tryd.prog.info? 56).map (·.zero) = some (some (.int .i64 (0 : Int))) := by kernel_rfl
theorem ze63 : (Tryd.prog.info? 63).map (·.zero) = some (some (.agg #[(.int .i64 (0 : Int)), (.int .i64 (0 : Int)), (.string (⟨#[]⟩ : ByteArray)), (.int .i64 (0 : Int))])) := by kernel_rfl
theorem ze73 : (Tryd.prog.info? 73).map (·.zero) = some (some (.agg #[(.slice none 0 0), (.int .i64 (0 : Int)), (.nilIface)])) := by kernel_rfl
theorem ze78 : (Tryd.prog.info? 78).map (·.zero) = some (some (.agg #[(.string (⟨#[]⟩ : ByteArray)), (.int .i64 (0 : Int)), (.nilIface)])) := by kernel_rfl
theorem ze94 : (Tryd.prog.info? 94).map (·.zero) = some (some (.agg #[(.pointer none), (.pointer none), (.int .u64 (0 : Int))])) := by kernel_rfl
theorem zo115 : (Tryd.prog.info? 115).map (·.zero) = some (some .nilIface) := by kernel_rfl
theorem zo116 : (Tryd.prog.info? 116).map (·.zero) = some (some .nilIface) := by kernel_rfl
theorem zo119 : (Tryd.prog.info? 119).map (·.zero) = some (some .nilIface) := by kernel_rfl
theorem mixed : Tryd.prog.follows .mixedOrders = true := by kernel_rfl

end Go.Proofs.YtdlilclopmhiaaaDoor.G
