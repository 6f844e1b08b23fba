/- Closed facts on the program's types. Printed by a program of the session (gen). -/
import Derived.Test.YtjiffdgidodebaaDoorFT
import Derived.Test.YtjiffdgidodebaaDoorProg
set_option linter.unusedVariables false
set_option linter.unusedSimpArgs false
set_option maxHeartbeats 8000000
set_option maxRecDepth 100000
namespace Go.Proofs.YtjiffdgidodebaaDoor.G
open Go Go.KK

def Env (M : IM) : Prop := M.cell ⟨0, 0, none⟩ = some (.iface 163 (.agg #[(.pointer (some ⟨1, 28, none⟩))]))
theorem Env.mono {M M' : IM} (h : Env M) (hle : M.le M') : Env M' := hle.cell h
theorem ag124 : aggB Tryd.prog 124 = true := by kernel_rfl
theorem ag40 : aggB Tryd.prog 40 = true := by kernel_rfl
theorem ag55 : aggB Tryd.prog 55 = true := by kernel_rfl
theorem ag89 : aggB Tryd.prog 89 = true := by kernel_rfl
theorem ag94 : aggB Tryd.prog 94 = true := by kernel_rfl
theorem ag97 : aggB Tryd.prog 97 = true := by kernel_rfl
theorem cc47 : Tryd.prog.concrete 47 = true := by kernel_rfl
theorem cc89 : Tryd.prog.concrete 89 = true := by kernel_rfl
theorem cc91 : Tryd.prog.concrete 91 = true := by kernel_rfl
theorem cc92 : Tryd.prog.concrete 92 = true := by kernel_rfl
theorem cm47 : (Tryd.prog.info? 47).map (·.comparable) = some true := by kernel_rfl
theorem co10 : callOk Tryd.prog 10 = true := by kernel_rfl
theorem co11 : callOk Tryd.prog 11 = true := by kernel_rfl
theorem co114 : callOk Tryd.prog 114 = true := by kernel_rfl
theorem co115 : callOk Tryd.prog 115 = true := by kernel_rfl
theorem co12 : callOk Tryd.prog 12 = true := by kernel_rfl
theorem co13 : callOk Tryd.prog 13 = true := by kernel_rfl
theorem co139 : callOk Tryd.prog 139 = true := by kernel_rfl
theorem co14 : callOk Tryd.prog 14 = true := by kernel_rfl
theorem co15 : callOk Tryd.prog 15 = true := by kernel_rfl
theorem co16 : callOk Tryd.prog 16 = true := by kernel_rfl
theorem co17 : callOk Tryd.prog 17 = true := by kernel_rfl
theorem co18 : callOk Tryd.prog 18 = true := by kernel_rfl
theorem co19 : callOk Tryd.prog 19 = true := by kernel_rfl
theorem co20 : callOk Tryd.prog 20 = true := by kernel_rfl
theorem co21 : callOk Tryd.prog 21 = true := by kernel_rfl
theorem co22 : callOk Tryd.prog 22 = true := by kernel_rfl
theorem co23 : callOk Tryd.prog 23 = true := by kernel_rfl
theorem co24 : callOk Tryd.prog 24 = true := by kernel_rfl
theorem co25 : callOk Tryd.prog 25 = true := by kernel_rfl
theorem co26 : callOk Tryd.prog 26 = true := by kernel_rfl
theorem co35 : callOk Tryd.prog 35 = true := by kernel_rfl
theorem co36 : callOk Tryd.prog 36 = true := by kernel_rfl
theorem co37 : callOk Tryd.prog 37 = true := by kernel_rfl
theorem co38 : callOk Tryd.prog 38 = true := by kernel_rfl
theorem co39 : callOk Tryd.prog 39 = true := by kernel_rfl
theorem co40 : callOk Tryd.prog 40 = true := by kernel_rfl
theorem co41 : callOk Tryd.prog 41 = true := by kernel_rfl
theorem co42 : callOk Tryd.prog 42 = true := by kernel_rfl
theorem co43 : callOk Tryd.prog 43 = true := by kernel_rfl
theorem co44 : callOk Tryd.prog 44 = true := by kernel_rfl
theorem co45 : callOk Tryd.prog 45 = true := by kernel_rfl
theorem co46 : callOk Tryd.prog 46 = true := by kernel_rfl
theorem co52 : callOk Tryd.prog 52 = true := by kernel_rfl
theorem co54 : callOk Tryd.prog 54 = true := by kernel_rfl
theorem co58 : callOk Tryd.prog 58 = true := by kernel_rfl
theorem co59 : callOk Tryd.prog 59 = true := by kernel_rfl
theorem co60 : callOk Tryd.prog 60 = true := by kernel_rfl
theorem co61 : callOk Tryd.prog 61 = true := by kernel_rfl
theorem co62 : callOk Tryd.prog 62 = true := by kernel_rfl
theorem co63 : callOk Tryd.prog 63 = true := by kernel_rfl
theorem co64 : callOk Tryd.prog 64 = true := by kernel_rfl
theorem co68 : callOk Tryd.prog 68 = true := by kernel_rfl
theorem co69 : callOk Tryd.prog 69 = true := by kernel_rfl
theorem co70 : callOk Tryd.prog 70 = true := by kernel_rfl
theorem co71 : callOk Tryd.prog 71 = true := by kernel_rfl
theorem co72 : callOk Tryd.prog 72 = true := by kernel_rfl
theorem co73 : callOk Tryd.prog 73 = true := by kernel_rfl
theorem co78 : callOk Tryd.prog 78 = true := by kernel_rfl
theorem co87 : callOk Tryd.prog 87 = true := by kernel_rfl
theorem co90 : callOk Tryd.prog 90 = true := by kernel_rfl
theorem co91 : callOk Tryd.prog 91 = true := by kernel_rfl
theorem co92 : callOk Tryd.prog 92 = true := by kernel_rfl
theorem co93 : callOk Tryd.prog 93 = true := by kernel_rfl
theorem co94 : callOk Tryd.prog 94 = true := by kernel_rfl
theorem co97 : callOk Tryd.prog 97 = true := by kernel_rfl
theorem da47 (w : World) : (Extern.Rtype.directlyAssignable 47 47).run Tryd.prog w = .ok true w := by kernel_rfl
theorem da89 (w : World) : (Extern.Rtype.directlyAssignable 89 89).run Tryd.prog w = .ok true w := by kernel_rfl
theorem el91 (w : World) : (Extern.Rtype.elem? 91).run Tryd.prog w = .ok (some 89) w := by kernel_rfl
theorem el92 (w : World) : (Extern.Rtype.elem? 92).run Tryd.prog w = .ok (some 47) w := by kernel_rfl
theorem fo101_0 : fldOff Tryd.prog 101 0 = some 0 := by kernel_rfl
theorem fo101_1 : fldOff Tryd.prog 101 1 = some 1 := by kernel_rfl
theorem fo101_2 : fldOff Tryd.prog 101 2 = some 2 := by kernel_rfl
theorem fo151_0 : fldOff Tryd.prog 151 0 = some 0 := by kernel_rfl
theorem fo151_1 : fldOff Tryd.prog 151 1 = some 1 := by kernel_rfl
theorem fo151_2 : fldOff Tryd.prog 151 2 = some 2 := by kernel_rfl
theorem fo33_0 : fldOff Tryd.prog 33 0 = some 0 := by kernel_rfl
theorem fo33_1 : fldOff Tryd.prog 33 1 = some 1 := by kernel_rfl
theorem fo33_2 : fldOff Tryd.prog 33 2 = some 2 := by kernel_rfl
theorem fo40_0 : fldOff Tryd.prog 40 0 = some 0 := by kernel_rfl
theorem fo40_1 : fldOff Tryd.prog 40 1 = some 1 := by kernel_rfl
theorem fo55_0 : fldOff Tryd.prog 55 0 = some 0 := by kernel_rfl
theorem fo55_1 : fldOff Tryd.prog 55 1 = some 2 := by kernel_rfl
theorem fo55_2 : fldOff Tryd.prog 55 2 = some 3 := by kernel_rfl
theorem fo55_3 : fldOff Tryd.prog 55 3 = some 4 := by kernel_rfl
theorem fo55_4 : fldOff Tryd.prog 55 4 = some 5 := by kernel_rfl
theorem fo89_0 : fldOff Tryd.prog 89 0 = some 0 := by kernel_rfl
theorem fo89_1 : fldOff Tryd.prog 89 1 = some 1 := by kernel_rfl
theorem fo89_2 : fldOff Tryd.prog 89 2 = some 2 := by kernel_rfl
theorem fo94_0 : fldOff Tryd.prog 94 0 = some 0 := by kernel_rfl
theorem fo94_1 : fldOff Tryd.prog 94 1 = some 1 := by kernel_rfl
theorem fo97_0 : fldOff Tryd.prog 97 0 = some 0 := by kernel_rfl
theorem fp101 : fldPlace Tryd.prog 101 = some [(0, 1), (1, 1), (2, 1)] := by kernel_rfl
theorem fp151 : fldPlace Tryd.prog 151 = some [(0, 1), (1, 1), (2, 1)] := by kernel_rfl
theorem fp33 : fldPlace Tryd.prog 33 = some [(0, 1), (1, 1), (2, 1)] := by kernel_rfl
theorem fp40 : fldPlace Tryd.prog 40 = some [(0, 1), (1, 1)] := by kernel_rfl
theorem fp55 : fldPlace Tryd.prog 55 = some [(0, 2), (2, 1), (3, 1), (4, 1), (5, 1)] := by kernel_rfl
theorem fp89 : fldPlace Tryd.prog 89 = some [(0, 1), (1, 1), (2, 1)] := by kernel_rfl
theorem fp94 : fldPlace Tryd.prog 94 = some [(0, 1), (1, 1), (2, 1), (3, 1)] := by kernel_rfl
theorem fp97 : fldPlace Tryd.prog 97 = some [(0, 1), (1, 1), (2, 1), (3, 1)] := by kernel_rfl
theorem ha89_170 (v : Value) (xT : TypeId) (w : World) : (Instr.typeAssert (.iface 89 v) xT 170 true).run Tryd.prog w = .ok (.tuple #[.iface 89 v, .bool true]) w := run_typeAssert_hasB Tryd.underlying170 (by kernel_rfl) v xT w
theorem in3 : (Tryd.prog.info? 3).map (fun i => (i.size, i.bytes, i.zero)) = some (1, 8, some (.int .i64 (0 : Int))) := by kernel_rfl
theorem in40 : (Tryd.prog.info? 40).map (fun i => (i.size, i.bytes, i.zero)) = some (2, 32, some (.agg #[(.int .i64 (0 : Int)), (.slice none 0 0)])) := by kernel_rfl
theorem in5 : (Tryd.prog.info? 5).map (fun i => (i.size, i.bytes, i.zero)) = some (1, 1, some (.int .u8 (0 : Int))) := by kernel_rfl
theorem in9 : (Tryd.prog.info? 9).map (fun i => (i.size, i.bytes, i.zero)) = some (1, 16, some (.string (⟨#[]⟩ : ByteArray))) := by kernel_rfl
theorem iz3 : (Tryd.prog.info? 3).map (fun i => (i.size, i.zero)) = some (1, some (.int .i64 (0 : Int))) := by kernel_rfl
theorem iz40 : (Tryd.prog.info? 40).map (fun i => (i.size, i.zero)) = some (2, some (.agg #[(.int .i64 (0 : Int)), (.slice none 0 0)])) := by kernel_rfl
theorem iz5 : (Tryd.prog.info? 5).map (fun i => (i.size, i.zero)) = some (1, some (.int .u8 (0 : Int))) := by kernel_rfl
theorem iz9 : (Tryd.prog.info? 9).map (fun i => (i.size, i.zero)) = some (1, some (.string (⟨#[]⟩ : ByteArray))) := by kernel_rfl
theorem la0_167 (v : Value) (xT : TypeId) (w : World) : (Instr.typeAssert (.iface 0 v) xT 167 true).run Tryd.prog w = .ok (.tuple #[.nilIface, .bool false]) w := run_typeAssert_lacksB Tryd.underlying167 (by kernel_rfl) (by kernel_rfl) v xT w
theorem la0_170 (v : Value) (xT : TypeId) (w : World) : (Instr.typeAssert (.iface 0 v) xT 170 true).run Tryd.prog w = .ok (.tuple #[.nilIface, .bool false]) w := run_typeAssert_lacksB Tryd.underlying170 (by kernel_rfl) (by kernel_rfl) v xT w
theorem la0_171 (v : Value) (xT : TypeId) (w : World) : (Instr.typeAssert (.iface 0 v) xT 171 true).run Tryd.prog w = .ok (.tuple #[.nilIface, .bool false]) w := run_typeAssert_lacksB Tryd.underlying171 (by kernel_rfl) (by kernel_rfl) v xT w
theorem la0_188 (v : Value) (xT : TypeId) (w : World) : (Instr.typeAssert (.iface 0 v) xT 188 true).run Tryd.prog w = .ok (.tuple #[.nilIface, .bool false]) w := run_typeAssert_lacksB Tryd.underlying188 (by kernel_rfl) (by kernel_rfl) v xT w
theorem la47_167 (v : Value) (xT : TypeId) (w : World) : (Instr.typeAssert (.iface 47 v) xT 167 true).run Tryd.prog w = .ok (.tuple #[.nilIface, .bool false]) w := run_typeAssert_lacksB Tryd.underlying167 (by kernel_rfl) (by kernel_rfl) v xT w
theorem la47_170 (v : Value) (xT : TypeId) (w : World) : (Instr.typeAssert (.iface 47 v) xT 170 true).run Tryd.prog w = .ok (.tuple #[.nilIface, .bool false]) w := run_typeAssert_lacksB Tryd.underlying170 (by kernel_rfl) (by kernel_rfl) v xT w
theorem la47_171 (v : Value) (xT : TypeId) (w : World) : (Instr.typeAssert (.iface 47 v) xT 171 true).run Tryd.prog w = .ok (.tuple #[.nilIface, .bool false]) w := run_typeAssert_lacksB Tryd.underlying171 (by kernel_rfl) (by kernel_rfl) v xT w
theorem la47_188 (v : Value) (xT : TypeId) (w : World) : (Instr.typeAssert (.iface 47 v) xT 188 true).run Tryd.prog w = .ok (.tuple #[.nilIface, .bool false]) w := run_typeAssert_lacksB Tryd.underlying188 (by kernel_rfl) (by kernel_rfl) v xT w
theorem la89_167 (v : Value) (xT : TypeId) (w : World) : (Instr.typeAssert (.iface 89 v) xT 167 true).run Tryd.prog w = .ok (.tuple #[.nilIface, .bool false]) w := run_typeAssert_lacksB Tryd.underlying167 (by kernel_rfl) (by kernel_rfl) v xT w
theorem la89_188 (v : Value) (xT : TypeId) (w : World) : (Instr.typeAssert (.iface 89 v) xT 188 true).run Tryd.prog w = .ok (.tuple #[.nilIface, .bool false]) w := run_typeAssert_lacksB Tryd.underlying188 (by kernel_rfl) (by kernel_rfl) v xT w
theorem me89_Unwrap (v : Value) (w : World) : (method (mdepth Tryd.prog) 89 v "Unwrap").run Tryd.prog w = .ok (139, v) w := by kernel_rfl
theorem mk47 (p : Addr) (w : World) : (Extern.ReflectliteValue.mk 47 p Extern.ReflectliteValue.flagAddr).run Tryd.prog w = .ok (.agg #[(.pointer (some ⟨1, 47, none⟩)), .pointer (some p), .int .u64 386]) w := by kernel_rfl
theorem mk89 (p : Addr) (w : World) : (Extern.ReflectliteValue.mk 89 p Extern.ReflectliteValue.flagAddr).run Tryd.prog w = .ok (.agg #[(.pointer (some ⟨1, 89, none⟩)), .pointer (some p), .int .u64 409]) w := by kernel_rfl
theorem mm_AssignableTo (h : Value) (w : World) : (method (mdepth Tryd.prog) 163 (.agg #[h]) "AssignableTo").run Tryd.prog w = .ok (144, .agg #[h]) w := by kernel_rfl
theorem mm_Comparable (h : Value) (w : World) : (method (mdepth Tryd.prog) 163 (.agg #[h]) "Comparable").run Tryd.prog w = .ok (145, .agg #[h]) w := by kernel_rfl
theorem mm_Elem (h : Value) (w : World) : (method (mdepth Tryd.prog) 163 (.agg #[h]) "Elem").run Tryd.prog w = .ok (146, .agg #[h]) w := by kernel_rfl
theorem mm_Implements (h : Value) (w : World) : (method (mdepth Tryd.prog) 163 (.agg #[h]) "Implements").run Tryd.prog w = .ok (147, .agg #[h]) w := by kernel_rfl
theorem mm_Kind (h : Value) (w : World) : (method (mdepth Tryd.prog) 163 (.agg #[h]) "Kind").run Tryd.prog w = .ok (134, h) w := by kernel_rfl
theorem mr_AssignableTo_0_47 (w : World) : ((Extern.ReflectliteType.relation "AssignableTo" Extern.ReflectliteType.assignableTo) #[.agg #[(.pointer (some ⟨1, 0, none⟩))], (.iface 163 (.agg #[.pointer (some ⟨1, 47, none⟩)]))]).run Tryd.prog w = .ok (.bool false) w := by kernel_rfl
theorem mr_AssignableTo_0_89 (w : World) : ((Extern.ReflectliteType.relation "AssignableTo" Extern.ReflectliteType.assignableTo) #[.agg #[(.pointer (some ⟨1, 0, none⟩))], (.iface 163 (.agg #[.pointer (some ⟨1, 89, none⟩)]))]).run Tryd.prog w = .ok (.bool false) w := by kernel_rfl
theorem mr_AssignableTo_47_47 (w : World) : ((Extern.ReflectliteType.relation "AssignableTo" Extern.ReflectliteType.assignableTo) #[.agg #[(.pointer (some ⟨1, 47, none⟩))], (.iface 163 (.agg #[.pointer (some ⟨1, 47, none⟩)]))]).run Tryd.prog w = .ok (.bool true) w := by kernel_rfl
theorem mr_AssignableTo_47_89 (w : World) : ((Extern.ReflectliteType.relation "AssignableTo" Extern.ReflectliteType.assignableTo) #[.agg #[(.pointer (some ⟨1, 47, none⟩))], (.iface 163 (.agg #[.pointer (some ⟨1, 89, none⟩)]))]).run Tryd.prog w = .ok (.bool false) w := by kernel_rfl
theorem mr_AssignableTo_89_47 (w : World) : ((Extern.ReflectliteType.relation "AssignableTo" Extern.ReflectliteType.assignableTo) #[.agg #[(.pointer (some ⟨1, 89, none⟩))], (.iface 163 (.agg #[.pointer (some ⟨1, 47, none⟩)]))]).run Tryd.prog w = .ok (.bool false) w := by kernel_rfl
theorem mr_AssignableTo_89_89 (w : World) : ((Extern.ReflectliteType.relation "AssignableTo" Extern.ReflectliteType.assignableTo) #[.agg #[(.pointer (some ⟨1, 89, none⟩))], (.iface 163 (.agg #[.pointer (some ⟨1, 89, none⟩)]))]).run Tryd.prog w = .ok (.bool true) w := by kernel_rfl
theorem mr_Comparable_47 (w : World) : ((Extern.ReflectliteType.method fun t => do Extern.Rtype.noPackHeld "Comparable" t; pure (.bool (← typeInfo t).comparable)) #[.agg #[(.pointer (some ⟨1, 47, none⟩))]]).run Tryd.prog w = .ok (.bool true) w := by kernel_rfl
theorem mr_Elem_91 (w : World) : ((Extern.ReflectliteType.method Extern.ReflectliteType.elem) #[.agg #[(.pointer (some ⟨1, 91, none⟩))]]).run Tryd.prog w = .ok (.iface 163 (.agg #[.pointer (some ⟨1, 89, none⟩)])) w := by kernel_rfl
theorem mr_Elem_92 (w : World) : ((Extern.ReflectliteType.method Extern.ReflectliteType.elem) #[.agg #[(.pointer (some ⟨1, 92, none⟩))]]).run Tryd.prog w = .ok (.iface 163 (.agg #[.pointer (some ⟨1, 47, none⟩)])) w := by kernel_rfl
theorem mr_Implements_47_28 (w : World) : ((Extern.ReflectliteType.relation "Implements" Extern.ReflectliteType.implements_) #[.agg #[(.pointer (some ⟨1, 47, none⟩))], (.iface 163 (.agg #[.pointer (some ⟨1, 28, none⟩)]))]).run Tryd.prog w = .ok (.bool true) w := by kernel_rfl
theorem mr_Implements_89_28 (w : World) : ((Extern.ReflectliteType.relation "Implements" Extern.ReflectliteType.implements_) #[.agg #[(.pointer (some ⟨1, 89, none⟩))], (.iface 163 (.agg #[.pointer (some ⟨1, 28, none⟩)]))]).run Tryd.prog w = .ok (.bool true) w := by kernel_rfl
theorem mr_Kind_47 (w : World) : ((Extern.ReflectliteType.abiMethod fun t => do pure (.int .u8 (← Extern.Rtype.kind t))) #[(.pointer (some ⟨1, 47, none⟩))]).run Tryd.prog w = .ok (.int .u8 (2 : Int)) w := by kernel_rfl
theorem mr_Kind_89 (w : World) : ((Extern.ReflectliteType.abiMethod fun t => do pure (.int .u8 (← Extern.Rtype.kind t))) #[(.pointer (some ⟨1, 89, none⟩))]).run Tryd.prog w = .ok (.int .u8 (25 : Int)) w := by kernel_rfl
theorem mr_Kind_91 (w : World) : ((Extern.ReflectliteType.abiMethod fun t => do pure (.int .u8 (← Extern.Rtype.kind t))) #[(.pointer (some ⟨1, 91, none⟩))]).run Tryd.prog w = .ok (.int .u8 (22 : Int)) w := by kernel_rfl
theorem mr_Kind_92 (w : World) : ((Extern.ReflectliteType.abiMethod fun t => do pure (.int .u8 (← Extern.Rtype.kind t))) #[(.pointer (some ⟨1, 92, none⟩))]).run Tryd.prog w = .ok (.int .u8 (22 : Int)) w := by kernel_rfl
theorem pl127 : plainT Tryd.prog 127 = true := by kernel_rfl
theorem pl23 : plainT Tryd.prog 23 = true := by kernel_rfl
theorem pl26 : plainT Tryd.prog 26 = true := by kernel_rfl
theorem pl28 : plainT Tryd.prog 28 = true := by kernel_rfl
theorem pl3 : plainT Tryd.prog 3 = true := by kernel_rfl
theorem pl42 : plainT Tryd.prog 42 = true := by kernel_rfl
theorem pl47 : plainT Tryd.prog 47 = true := by kernel_rfl
theorem pl5 : plainT Tryd.prog 5 = true := by kernel_rfl
theorem pl73 : plainT Tryd.prog 73 = true := by kernel_rfl
theorem pl9 : plainT Tryd.prog 9 = true := by kernel_rfl
theorem pl91 : plainT Tryd.prog 91 = true := by kernel_rfl
theorem pl92 : plainT Tryd.prog 92 = true := by kernel_rfl
theorem pp47_130 (a : Addr) (w : World) : (Extern.ReflectliteValue.parts (.agg #[(.pointer (some ⟨1, 47, none⟩)), .pointer (some a), .int .u64 130])).run Tryd.prog w = .ok (some (47, a, 130)) w := by kernel_rfl
theorem pp47_386 (a : Addr) (w : World) : (Extern.ReflectliteValue.parts (.agg #[(.pointer (some ⟨1, 47, none⟩)), .pointer (some a), .int .u64 386])).run Tryd.prog w = .ok (some (47, a, 386)) w := by kernel_rfl
theorem pp89_153 (a : Addr) (w : World) : (Extern.ReflectliteValue.parts (.agg #[(.pointer (some ⟨1, 89, none⟩)), .pointer (some a), .int .u64 153])).run Tryd.prog w = .ok (some (89, a, 153)) w := by kernel_rfl
theorem pp89_409 (a : Addr) (w : World) : (Extern.ReflectliteValue.parts (.agg #[(.pointer (some ⟨1, 89, none⟩)), .pointer (some a), .int .u64 409])).run Tryd.prog w = .ok (some (89, a, 409)) w := by kernel_rfl
theorem pp91_150 (a : Addr) (w : World) : (Extern.ReflectliteValue.parts (.agg #[(.pointer (some ⟨1, 91, none⟩)), .pointer (some a), .int .u64 150])).run Tryd.prog w = .ok (some (91, a, 150)) w := by kernel_rfl
theorem pp92_150 (a : Addr) (w : World) : (Extern.ReflectliteValue.parts (.agg #[(.pointer (some ⟨1, 92, none⟩)), .pointer (some a), .int .u64 150])).run Tryd.prog w = .ok (some (92, a, 150)) w := by kernel_rfl
theorem sz124 : (Tryd.prog.info? 124).map (·.size) = some 3 := by kernel_rfl
theorem sz193 : (Tryd.prog.info? 193).map (·.size) = some 16 := by kernel_rfl
theorem sz23 : (Tryd.prog.info? 23).map (·.size) = some 1 := by kernel_rfl
theorem sz26 : (Tryd.prog.info? 26).map (·.size) = some 1 := by kernel_rfl
theorem sz28 : (Tryd.prog.info? 28).map (·.size) = some 1 := by kernel_rfl
theorem sz3 : (Tryd.prog.info? 3).map (·.size) = some 1 := by kernel_rfl
theorem sz40 : (Tryd.prog.info? 40).map (·.size) = some 2 := by kernel_rfl
theorem sz42 : (Tryd.prog.info? 42).map (·.size) = some 1 := by kernel_rfl
theorem sz47 : (Tryd.prog.info? 47).map (·.size) = some 1 := by kernel_rfl
theorem sz5 : (Tryd.prog.info? 5).map (·.size) = some 1 := by kernel_rfl
theorem sz55 : (Tryd.prog.info? 55).map (·.size) = some 6 := by kernel_rfl
theorem sz73 : (Tryd.prog.info? 73).map (·.size) = some 1 := by kernel_rfl
theorem sz89 : (Tryd.prog.info? 89).map (·.size) = some 3 := by kernel_rfl
theorem sz9 : (Tryd.prog.info? 9).map (·.size) = some 1 := by kernel_rfl
theorem sz94 : (Tryd.prog.info? 94).map (·.size) = some 4 := by kernel_rfl
theorem sz97 : (Tryd.prog.info? 97).map (·.size) = some 4 := by kernel_rfl
theorem ty0 (v : Value) (w : World) : (Extern.ReflectliteType.typeOf #[.iface 0 v]).run Tryd.prog w = .ok (.iface 163 (.agg #[(.pointer (some ⟨1, 0, none⟩))])) w := by kernel_rfl
theorem ty47 (v : Value) (w : World) : (Extern.ReflectliteType.typeOf #[.iface 47 v]).run Tryd.prog w = .ok (.iface 163 (.agg #[(.pointer (some ⟨1, 47, none⟩))])) w := by kernel_rfl
theorem ty89 (v : Value) (w : World) : (Extern.ReflectliteType.typeOf #[.iface 89 v]).run Tryd.prog w = .ok (.iface 163 (.agg #[(.pointer (some ⟨1, 89, none⟩))])) w := by kernel_rfl
theorem tyNil (w : World) : (Extern.ReflectliteType.typeOf #[.nilIface]).run Tryd.prog w = .ok .nilIface w := by kernel_rfl
theorem us23 : (Tryd.prog.underlying 23).isSome = true := by kernel_rfl
theorem us3 : (Tryd.prog.underlying 3).isSome = true := by kernel_rfl
theorem us42 : (Tryd.prog.underlying 42).isSome = true := by kernel_rfl
theorem us5 : (Tryd.prog.underlying 5).isSome = true := by kernel_rfl
theorem us73 : (Tryd.prog.underlying 73).isSome = true := by kernel_rfl
theorem vo47 (n : Int) (w : World) : (Extern.ReflectliteValue.unpack (.iface 47 (.int .i64 n))).run Tryd.prog w = .ok (.agg #[(.pointer (some ⟨1, 47, none⟩)), .pointer (some ⟨w.heap.size, 0, none⟩), .int .u64 130]) (w.alloc (.cells #[.int .i64 n] 47)) := by kernel_rfl
theorem vo89 (o : ByteArray) (n : Int) (e : Value) (w : World) : (Extern.ReflectliteValue.unpack (.iface 89 (.agg #[.string o, .int .i64 n, e]))).run Tryd.prog w = .ok (.agg #[(.pointer (some ⟨1, 89, none⟩)), .pointer (some ⟨w.heap.size, 0, none⟩), .int .u64 153]) (w.alloc (.cells #[.string o, .int .i64 n, e] 89)) := by kernel_rfl
theorem vo91 (p : Addr) (w : World) : (Extern.ReflectliteValue.unpack (.iface 91 (.pointer (some p)))).run Tryd.prog w = .ok (.agg #[(.pointer (some ⟨1, 91, none⟩)), .pointer (some ⟨w.heap.size, 0, none⟩), .int .u64 150]) (w.alloc (.cells #[.pointer (some p)] 91)) := by kernel_rfl
theorem vo92 (p : Addr) (w : World) : (Extern.ReflectliteValue.unpack (.iface 92 (.pointer (some p)))).run Tryd.prog w = .ok (.agg #[(.pointer (some ⟨1, 92, none⟩)), .pointer (some ⟨w.heap.size, 0, none⟩), .int .u64 150]) (w.alloc (.cells #[.pointer (some p)] 92)) := by kernel_rfl
theorem vt91_150 (a : Addr) (w : World) : ((Extern.ReflectliteValue.methodAny (Extern.ReflectliteValue.valueError "reflectlite.Value.Type" 0) (fun t _ _ _ => Extern.ReflectliteType.toType t)) #[.agg #[(.pointer (some ⟨1, 91, none⟩)), .pointer (some a), .int .u64 150]]).run Tryd.prog w = .ok (.iface 163 (.agg #[(.pointer (some ⟨1, 91, none⟩))])) w := by kernel_rfl
theorem vt92_150 (a : Addr) (w : World) : ((Extern.ReflectliteValue.methodAny (Extern.ReflectliteValue.valueError "reflectlite.Value.Type" 0) (fun t _ _ _ => Extern.ReflectliteType.toType t)) #[.agg #[(.pointer (some ⟨1, 92, none⟩)), .pointer (some a), .int .u64 150]]).run Tryd.prog w = .ok (.iface 163 (.agg #[(.pointer (some ⟨1, 92, none⟩))])) w := by kernel_rfl
theorem xt134 : ExtOk Tryd.prog 134 (Extern.ReflectliteType.abiMethod fun t => do pure (.int .u8 (← Extern.Rtype.kind t))) := fun args w => run_callFunc_extern (e := (Extern.ReflectliteType.abiMethod fun t => do pure (.int .u8 (← Extern.Rtype.kind t)))) Tryd.func134 (by kernel_rfl) (by kernel_rfl) (by kernel_rfl) (by kernel_rfl) args w
theorem xt144 : ExtOk Tryd.prog 144 (Extern.ReflectliteType.relation "AssignableTo" Extern.ReflectliteType.assignableTo) := fun args w => run_callFunc_extern (e := (Extern.ReflectliteType.relation "AssignableTo" Extern.ReflectliteType.assignableTo)) Tryd.func144 (by kernel_rfl) (by kernel_rfl) (by kernel_rfl) (by kernel_rfl) args w
theorem xt145 : ExtOk Tryd.prog 145 (Extern.ReflectliteType.method fun t => do Extern.Rtype.noPackHeld "Comparable" t; pure (.bool (← typeInfo t).comparable)) := fun args w => run_callFunc_extern (e := (Extern.ReflectliteType.method fun t => do Extern.Rtype.noPackHeld "Comparable" t; pure (.bool (← typeInfo t).comparable))) Tryd.func145 (by kernel_rfl) (by kernel_rfl) (by kernel_rfl) (by kernel_rfl) args w
theorem xt146 : ExtOk Tryd.prog 146 (Extern.ReflectliteType.method Extern.ReflectliteType.elem) := fun args w => run_callFunc_extern (e := (Extern.ReflectliteType.method Extern.ReflectliteType.elem)) Tryd.func146 (by kernel_rfl) (by kernel_rfl) (by kernel_rfl) (by kernel_rfl) args w
theorem xt147 : ExtOk Tryd.prog 147 (Extern.ReflectliteType.relation "Implements" Extern.ReflectliteType.implements_) := fun args w => run_callFunc_extern (e := (Extern.ReflectliteType.relation "Implements" Extern.ReflectliteType.implements_)) Tryd.func147 (by kernel_rfl) (by kernel_rfl) (by kernel_rfl) (by kernel_rfl) args w
theorem xt65 : ExtOk Tryd.prog 65 (fun args => Extern.ReflectliteValue.unpack (args.getD 0 (.tuple #[]))) := fun args w => run_callFunc_extern (e := (fun args => Extern.ReflectliteValue.unpack (args.getD 0 (.tuple #[])))) Tryd.func65 (by kernel_rfl) (by kernel_rfl) (by kernel_rfl) (by kernel_rfl) args w
theorem xt66 : ExtOk Tryd.prog 66 (Extern.ReflectliteValue.methodAny (Extern.ReflectliteValue.valueError "reflectlite.Value.Type" 0) (fun t _ _ _ => Extern.ReflectliteType.toType t)) := fun args w => run_callFunc_extern (e := (Extern.ReflectliteValue.methodAny (Extern.ReflectliteValue.valueError "reflectlite.Value.Type" 0) (fun t _ _ _ => Extern.ReflectliteType.toType t))) Tryd.func66 (by kernel_rfl) (by kernel_rfl) (by kernel_rfl) (by kernel_rfl) args w
theorem xt67 : ExtOk Tryd.prog 67 (Extern.ReflectliteValue.method (Extern.ReflectliteValue.valueError "reflectlite.Value.IsNil" 0) Extern.ReflectliteValue.isNil) := fun args w => run_callFunc_extern (e := (Extern.ReflectliteValue.method (Extern.ReflectliteValue.valueError "reflectlite.Value.IsNil" 0) Extern.ReflectliteValue.isNil)) Tryd.func67 (by kernel_rfl) (by kernel_rfl) (by kernel_rfl) (by kernel_rfl) args w
theorem xt89 : ExtOk Tryd.prog 89 Extern.ReflectliteType.typeOf := fun args w => run_callFunc_extern (e := Extern.ReflectliteType.typeOf) Tryd.func89 (by kernel_rfl) (by kernel_rfl) (by kernel_rfl) (by kernel_rfl) args w
theorem xt95 : ExtOk Tryd.prog 95 (Extern.ReflectliteValue.method (Extern.ReflectliteValue.valueError "reflectlite.Value.Elem" 0) Extern.ReflectliteValue.elem) := fun args w => run_callFunc_extern (e := (Extern.ReflectliteValue.method (Extern.ReflectliteValue.valueError "reflectlite.Value.Elem" 0) Extern.ReflectliteValue.elem)) Tryd.func95 (by kernel_rfl) (by kernel_rfl) (by kernel_rfl) (by kernel_rfl) args w
theorem xt96 : ExtOk Tryd.prog 96 Extern.ReflectliteValue.set := fun args w => run_callFunc_extern (e := Extern.ReflectliteValue.set) Tryd.func96 (by kernel_rfl) (by kernel_rfl) (by kernel_rfl) (by kernel_rfl) args w
theorem ze101 : (Tryd.prog.info? 101).map (·.zero) = some (some (.agg #[(.int .i64 (0 : Int)), (.int .i64 (0 : Int)), (.int .i64 (0 : Int))])) := by kernel_rfl
theorem ze124 : (Tryd.prog.info? 124).map (·.zero) = some (some (.agg #[(.pointer none), (.pointer none), (.int .u64 (0 : Int))])) := by kernel_rfl
theorem ze151 : (Tryd.prog.info? 151).map (·.zero) = some (some (.agg #[(.slice none 0 0), (.int .i64 (0 : Int)), (.nilIface)])) := by kernel_rfl
theorem ze193 : (Tryd.prog.info? 193).map (·.zero) = some (some (.agg #[(.int .u32 (0 : Int)), (.int .u32 (0 : Int)), (.int .u32 (0 : Int)), (.int .u32 (0 : Int)), (.int .u32 (0 : Int)), (.int .u32 (0 : Int)), (.int .u32 (0 : Int)), (.int .u32 (0 : Int)), (.int .u32 (0 : Int)), (.int .u32 (0 : Int)), (.int .u32 (0 : Int)), (.int .u32 (0 : Int)), (.int .u32 (0 : Int)), (.int .u32 (0 : Int)), (.int .u32 (0 : Int)), (.int .u32 (0 : Int))])) := by kernel_rfl
theorem ze26 : (Tryd.prog.info? 26).map (·.zero) = some (some (.slice none 0 0)) := by kernel_rfl
theorem ze3 : (Tryd.prog.info? 3).map (·.zero) = some (some (.int .i64 (0 : Int))) := by kernel_rfl
theorem ze33 : (Tryd.prog.info? 33).map (·.zero) = some (some (.agg #[(.slice none 0 0), (.int .i64 (0 : Int)), (.nilIface)])) := by kernel_rfl
theorem ze40 : (Tryd.prog.info? 40).map (·.zero) = some (some (.agg #[(.int .i64 (0 : Int)), (.slice none 0 0)])) := by kernel_rfl
theorem ze42 : (Tryd.prog.info? 42).map (·.zero) = some (some (.int .u64 (0 : Int))) := by kernel_rfl
theorem ze47 : (Tryd.prog.info? 47).map (·.zero) = some (some (.int .i64 (0 : Int))) := by kernel_rfl
theorem ze55 : (Tryd.prog.info? 55).map (·.zero) = some (some (.agg #[(.int .i64 (0 : Int)), (.slice none 0 0), (.int .i64 (0 : Int)), (.int .i64 (0 : Int)), (.string (⟨#[]⟩ : ByteArray)), (.int .i64 (0 : Int))])) := by kernel_rfl
theorem ze89 : (Tryd.prog.info? 89).map (·.zero) = some (some (.agg #[(.string (⟨#[]⟩ : ByteArray)), (.int .i64 (0 : Int)), (.nilIface)])) := by kernel_rfl
theorem ze94 : (Tryd.prog.info? 94).map (·.zero) = some (some (.agg #[(.int .i64 (0 : Int)), (.int .i64 (0 : Int)), (.string (⟨#[]⟩ : ByteArray)), (.int .i64 (0 : Int))])) := by kernel_rfl
theorem ze97 : (Tryd.prog.info? 97).map (·.zero) = some (some (.agg #[(.int .u64 (0 : Int)), (.bool false), (.slice none 0 0), (.slice none 0 0)])) := by kernel_rfl
theorem zo170 : (Tryd.prog.info? 170).map (·.zero) = some (some .nilIface) := by kernel_rfl
theorem zo171 : (Tryd.prog.info? 171).map (·.zero) = some (some .nilIface) := by kernel_rfl
theorem zo188 : (Tryd.prog.info? 188).map (·.zero) = some (some .nilIface) := by kernel_rfl
theorem mixed : Tryd.prog.follows .mixedOrders = true := by kernel_rfl

end Go.Proofs.YtjiffdgidodebaaDoor.G
