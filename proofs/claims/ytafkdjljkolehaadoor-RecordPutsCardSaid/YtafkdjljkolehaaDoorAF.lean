/- Closed facts on the program's types. Printed by a program of the session (gen). -/
import Derived.Test.YtafkdjljkolehaaDoorAT
import Derived.Test.YtafkdjljkolehaaDoorProg
set_option linter.unusedVariables false
set_option linter.unusedSimpArgs false
set_option maxHeartbeats 8000000
set_option maxRecDepth 100000
namespace Go.Proofs.YtafkdjljkolehaaDoor.G
open Go Go.KK

def Env (M : IM) : Prop := M.cell ⟨0, 0, none⟩ = some (.iface 121 (.agg #[(.pointer (some ⟨1, 30, none⟩))]))
theorem Env.mono {M M' : IM} (h : Env M) (hle : M.le M') : Env M' := hle.cell h
theorem ag103 : aggB Tryd.prog 103 = true := by kernel_rfl
theorem ag113 : aggB Tryd.prog 113 = true := by kernel_rfl
theorem ag24 : aggB Tryd.prog 24 = true := by kernel_rfl
theorem ag47 : aggB Tryd.prog 47 = true := by kernel_rfl
theorem ag84 : aggB Tryd.prog 84 = true := by kernel_rfl
theorem ag86 : aggB Tryd.prog 86 = true := by kernel_rfl
theorem cc103 : Tryd.prog.concrete 103 = true := by kernel_rfl
theorem cc104 : Tryd.prog.concrete 104 = true := by kernel_rfl
theorem cc38 : Tryd.prog.concrete 38 = true := by kernel_rfl
theorem cc97 : Tryd.prog.concrete 97 = true := by kernel_rfl
theorem cm38 : (Tryd.prog.info? 38).map (·.comparable) = some true := by kernel_rfl
theorem co10 : callOk Tryd.prog 10 = true := by kernel_rfl
theorem co107 : callOk Tryd.prog 107 = true := by kernel_rfl
theorem co11 : callOk Tryd.prog 11 = true := by kernel_rfl
theorem co12 : callOk Tryd.prog 12 = true := by kernel_rfl
theorem co13 : callOk Tryd.prog 13 = true := by kernel_rfl
theorem co14 : callOk Tryd.prog 14 = true := by kernel_rfl
theorem co15 : callOk Tryd.prog 15 = true := by kernel_rfl
theorem co16 : callOk Tryd.prog 16 = true := by kernel_rfl
theorem co17 : callOk Tryd.prog 17 = true := by kernel_rfl
theorem co18 : callOk Tryd.prog 18 = true := by kernel_rfl
theorem co19 : callOk Tryd.prog 19 = true := by kernel_rfl
theorem co20 : callOk Tryd.prog 20 = true := by kernel_rfl
theorem co21 : callOk Tryd.prog 21 = true := by kernel_rfl
theorem co22 : callOk Tryd.prog 22 = true := by kernel_rfl
theorem co23 : callOk Tryd.prog 23 = true := by kernel_rfl
theorem co24 : callOk Tryd.prog 24 = true := by kernel_rfl
theorem co25 : callOk Tryd.prog 25 = true := by kernel_rfl
theorem co26 : callOk Tryd.prog 26 = true := by kernel_rfl
theorem co27 : callOk Tryd.prog 27 = true := by kernel_rfl
theorem co28 : callOk Tryd.prog 28 = true := by kernel_rfl
theorem co29 : callOk Tryd.prog 29 = true := by kernel_rfl
theorem co30 : callOk Tryd.prog 30 = true := by kernel_rfl
theorem co31 : callOk Tryd.prog 31 = true := by kernel_rfl
theorem co32 : callOk Tryd.prog 32 = true := by kernel_rfl
theorem co33 : callOk Tryd.prog 33 = true := by kernel_rfl
theorem co34 : callOk Tryd.prog 34 = true := by kernel_rfl
theorem co35 : callOk Tryd.prog 35 = true := by kernel_rfl
theorem co36 : callOk Tryd.prog 36 = true := by kernel_rfl
theorem co37 : callOk Tryd.prog 37 = true := by kernel_rfl
theorem co38 : callOk Tryd.prog 38 = true := by kernel_rfl
theorem co39 : callOk Tryd.prog 39 = true := by kernel_rfl
theorem co40 : callOk Tryd.prog 40 = true := by kernel_rfl
theorem co41 : callOk Tryd.prog 41 = true := by kernel_rfl
theorem co42 : callOk Tryd.prog 42 = true := by kernel_rfl
theorem co43 : callOk Tryd.prog 43 = true := by kernel_rfl
theorem co44 : callOk Tryd.prog 44 = true := by kernel_rfl
theorem co45 : callOk Tryd.prog 45 = true := by kernel_rfl
theorem co46 : callOk Tryd.prog 46 = true := by kernel_rfl
theorem co47 : callOk Tryd.prog 47 = true := by kernel_rfl
theorem co48 : callOk Tryd.prog 48 = true := by kernel_rfl
theorem co49 : callOk Tryd.prog 49 = true := by kernel_rfl
theorem co50 : callOk Tryd.prog 50 = true := by kernel_rfl
theorem co51 : callOk Tryd.prog 51 = true := by kernel_rfl
theorem co52 : callOk Tryd.prog 52 = true := by kernel_rfl
theorem co53 : callOk Tryd.prog 53 = true := by kernel_rfl
theorem co54 : callOk Tryd.prog 54 = true := by kernel_rfl
theorem co55 : callOk Tryd.prog 55 = true := by kernel_rfl
theorem co56 : callOk Tryd.prog 56 = true := by kernel_rfl
theorem co57 : callOk Tryd.prog 57 = true := by kernel_rfl
theorem co58 : callOk Tryd.prog 58 = true := by kernel_rfl
theorem co59 : callOk Tryd.prog 59 = true := by kernel_rfl
theorem co60 : callOk Tryd.prog 60 = true := by kernel_rfl
theorem co61 : callOk Tryd.prog 61 = true := by kernel_rfl
theorem co62 : callOk Tryd.prog 62 = true := by kernel_rfl
theorem co63 : callOk Tryd.prog 63 = true := by kernel_rfl
theorem co64 : callOk Tryd.prog 64 = true := by kernel_rfl
theorem co65 : callOk Tryd.prog 65 = true := by kernel_rfl
theorem co66 : callOk Tryd.prog 66 = true := by kernel_rfl
theorem co67 : callOk Tryd.prog 67 = true := by kernel_rfl
theorem co68 : callOk Tryd.prog 68 = true := by kernel_rfl
theorem co69 : callOk Tryd.prog 69 = true := by kernel_rfl
theorem co7 : callOk Tryd.prog 7 = true := by kernel_rfl
theorem co70 : callOk Tryd.prog 70 = true := by kernel_rfl
theorem co72 : callOk Tryd.prog 72 = true := by kernel_rfl
theorem co73 : callOk Tryd.prog 73 = true := by kernel_rfl
theorem co74 : callOk Tryd.prog 74 = true := by kernel_rfl
theorem co75 : callOk Tryd.prog 75 = true := by kernel_rfl
theorem co76 : callOk Tryd.prog 76 = true := by kernel_rfl
theorem co77 : callOk Tryd.prog 77 = true := by kernel_rfl
theorem co78 : callOk Tryd.prog 78 = true := by kernel_rfl
theorem co79 : callOk Tryd.prog 79 = true := by kernel_rfl
theorem co8 : callOk Tryd.prog 8 = true := by kernel_rfl
theorem co83 : callOk Tryd.prog 83 = true := by kernel_rfl
theorem co84 : callOk Tryd.prog 84 = true := by kernel_rfl
theorem co87 : callOk Tryd.prog 87 = true := by kernel_rfl
theorem co9 : callOk Tryd.prog 9 = true := by kernel_rfl
theorem da103 (w : World) : (Extern.Rtype.directlyAssignable 103 103).run Tryd.prog w = .ok true w := by kernel_rfl
theorem da38 (w : World) : (Extern.Rtype.directlyAssignable 38 38).run Tryd.prog w = .ok true w := by kernel_rfl
theorem eg84 : Tryd.prog.eqGuardType Tryd.prog.depth 84 = false := by kernel_rfl
theorem eg86 : Tryd.prog.eqGuardType Tryd.prog.depth 86 = false := by kernel_rfl
theorem el104 (w : World) : (Extern.Rtype.elem? 104).run Tryd.prog w = .ok (some 103) w := by kernel_rfl
theorem el97 (w : World) : (Extern.Rtype.elem? 97).run Tryd.prog w = .ok (some 38) w := by kernel_rfl
theorem fo103_0 : fldOff Tryd.prog 103 0 = some 0 := by kernel_rfl
theorem fo103_1 : fldOff Tryd.prog 103 1 = some 1 := by kernel_rfl
theorem fo103_2 : fldOff Tryd.prog 103 2 = some 2 := by kernel_rfl
theorem fo24_0 : fldOff Tryd.prog 24 0 = some 0 := by kernel_rfl
theorem fo24_1 : fldOff Tryd.prog 24 1 = some 1 := by kernel_rfl
theorem fo24_10 : fldOff Tryd.prog 24 10 = some 10 := by kernel_rfl
theorem fo24_11 : fldOff Tryd.prog 24 11 = some 11 := by kernel_rfl
theorem fo24_12 : fldOff Tryd.prog 24 12 = some 12 := by kernel_rfl
theorem fo24_13 : fldOff Tryd.prog 24 13 = some 13 := by kernel_rfl
theorem fo24_14 : fldOff Tryd.prog 24 14 = some 14 := by kernel_rfl
theorem fo24_15 : fldOff Tryd.prog 24 15 = some 15 := by kernel_rfl
theorem fo24_16 : fldOff Tryd.prog 24 16 = some 16 := by kernel_rfl
theorem fo24_17 : fldOff Tryd.prog 24 17 = some 17 := by kernel_rfl
theorem fo24_2 : fldOff Tryd.prog 24 2 = some 2 := by kernel_rfl
theorem fo24_3 : fldOff Tryd.prog 24 3 = some 3 := by kernel_rfl
theorem fo24_4 : fldOff Tryd.prog 24 4 = some 4 := by kernel_rfl
theorem fo24_5 : fldOff Tryd.prog 24 5 = some 5 := by kernel_rfl
theorem fo24_6 : fldOff Tryd.prog 24 6 = some 6 := by kernel_rfl
theorem fo24_7 : fldOff Tryd.prog 24 7 = some 7 := by kernel_rfl
theorem fo24_8 : fldOff Tryd.prog 24 8 = some 8 := by kernel_rfl
theorem fo24_9 : fldOff Tryd.prog 24 9 = some 9 := by kernel_rfl
theorem fo47_0 : fldOff Tryd.prog 47 0 = some 0 := by kernel_rfl
theorem fo47_1 : fldOff Tryd.prog 47 1 = some 1 := by kernel_rfl
theorem fo47_2 : fldOff Tryd.prog 47 2 = some 2 := by kernel_rfl
theorem fo63_0 : fldOff Tryd.prog 63 0 = some 0 := by kernel_rfl
theorem fo63_1 : fldOff Tryd.prog 63 1 = some 1 := by kernel_rfl
theorem fo63_2 : fldOff Tryd.prog 63 2 = some 2 := by kernel_rfl
theorem fp103 : fldPlace Tryd.prog 103 = some [(0, 1), (1, 1), (2, 1)] := by kernel_rfl
theorem fp24 : fldPlace Tryd.prog 24 = some [(0, 1), (1, 1), (2, 1), (3, 1), (4, 1), (5, 1), (6, 1), (7, 1), (8, 1), (9, 1), (10, 1), (11, 1), (12, 1), (13, 1), (14, 1), (15, 1), (16, 1), (17, 1)] := by kernel_rfl
theorem fp47 : fldPlace Tryd.prog 47 = some [(0, 1), (1, 1), (2, 1)] := by kernel_rfl
theorem fp63 : fldPlace Tryd.prog 63 = some [(0, 1), (1, 1), (2, 1)] := by kernel_rfl
theorem ha103_126 (v : Value) (xT : TypeId) (w : World) : (Instr.typeAssert (.iface 103 v) xT 126 true).run Tryd.prog w = .ok (.tuple #[.iface 103 v, .bool true]) w := run_typeAssert_hasB Tryd.underlying126 (by kernel_rfl) v xT w
theorem in3 : (Tryd.prog.info? 3).map (fun i => (i.size, i.bytes, i.zero)) = some (1, 8, some (.int .i64 (0 : Int))) := by kernel_rfl
theorem in5 : (Tryd.prog.info? 5).map (fun i => (i.size, i.bytes, i.zero)) = some (1, 1, some (.int .u8 (0 : Int))) := by kernel_rfl
theorem in9 : (Tryd.prog.info? 9).map (fun i => (i.size, i.bytes, i.zero)) = some (1, 16, some (.string (⟨#[]⟩ : ByteArray))) := by kernel_rfl
theorem iz3 : (Tryd.prog.info? 3).map (fun i => (i.size, i.zero)) = some (1, some (.int .i64 (0 : Int))) := by kernel_rfl
theorem iz5 : (Tryd.prog.info? 5).map (fun i => (i.size, i.zero)) = some (1, some (.int .u8 (0 : Int))) := by kernel_rfl
theorem iz9 : (Tryd.prog.info? 9).map (fun i => (i.size, i.zero)) = some (1, some (.string (⟨#[]⟩ : ByteArray))) := by kernel_rfl
theorem la0_123 (v : Value) (xT : TypeId) (w : World) : (Instr.typeAssert (.iface 0 v) xT 123 true).run Tryd.prog w = .ok (.tuple #[.nilIface, .bool false]) w := run_typeAssert_lacksB Tryd.underlying123 (by kernel_rfl) (by kernel_rfl) v xT w
theorem la0_126 (v : Value) (xT : TypeId) (w : World) : (Instr.typeAssert (.iface 0 v) xT 126 true).run Tryd.prog w = .ok (.tuple #[.nilIface, .bool false]) w := run_typeAssert_lacksB Tryd.underlying126 (by kernel_rfl) (by kernel_rfl) v xT w
theorem la0_127 (v : Value) (xT : TypeId) (w : World) : (Instr.typeAssert (.iface 0 v) xT 127 true).run Tryd.prog w = .ok (.tuple #[.nilIface, .bool false]) w := run_typeAssert_lacksB Tryd.underlying127 (by kernel_rfl) (by kernel_rfl) v xT w
theorem la0_133 (v : Value) (xT : TypeId) (w : World) : (Instr.typeAssert (.iface 0 v) xT 133 true).run Tryd.prog w = .ok (.tuple #[.nilIface, .bool false]) w := run_typeAssert_lacksB Tryd.underlying133 (by kernel_rfl) (by kernel_rfl) v xT w
theorem la103_123 (v : Value) (xT : TypeId) (w : World) : (Instr.typeAssert (.iface 103 v) xT 123 true).run Tryd.prog w = .ok (.tuple #[.nilIface, .bool false]) w := run_typeAssert_lacksB Tryd.underlying123 (by kernel_rfl) (by kernel_rfl) v xT w
theorem la103_133 (v : Value) (xT : TypeId) (w : World) : (Instr.typeAssert (.iface 103 v) xT 133 true).run Tryd.prog w = .ok (.tuple #[.nilIface, .bool false]) w := run_typeAssert_lacksB Tryd.underlying133 (by kernel_rfl) (by kernel_rfl) v xT w
theorem la38_123 (v : Value) (xT : TypeId) (w : World) : (Instr.typeAssert (.iface 38 v) xT 123 true).run Tryd.prog w = .ok (.tuple #[.nilIface, .bool false]) w := run_typeAssert_lacksB Tryd.underlying123 (by kernel_rfl) (by kernel_rfl) v xT w
theorem la38_126 (v : Value) (xT : TypeId) (w : World) : (Instr.typeAssert (.iface 38 v) xT 126 true).run Tryd.prog w = .ok (.tuple #[.nilIface, .bool false]) w := run_typeAssert_lacksB Tryd.underlying126 (by kernel_rfl) (by kernel_rfl) v xT w
theorem la38_127 (v : Value) (xT : TypeId) (w : World) : (Instr.typeAssert (.iface 38 v) xT 127 true).run Tryd.prog w = .ok (.tuple #[.nilIface, .bool false]) w := run_typeAssert_lacksB Tryd.underlying127 (by kernel_rfl) (by kernel_rfl) v xT w
theorem la38_133 (v : Value) (xT : TypeId) (w : World) : (Instr.typeAssert (.iface 38 v) xT 133 true).run Tryd.prog w = .ok (.tuple #[.nilIface, .bool false]) w := run_typeAssert_lacksB Tryd.underlying133 (by kernel_rfl) (by kernel_rfl) v xT w
theorem me103_Unwrap (v : Value) (w : World) : (method (mdepth Tryd.prog) 103 v "Unwrap").run Tryd.prog w = .ok (107, v) w := by kernel_rfl
theorem mk103 (p : Addr) (w : World) : (Extern.ReflectliteValue.mk 103 p Extern.ReflectliteValue.flagAddr).run Tryd.prog w = .ok (.agg #[(.pointer (some ⟨1, 103, none⟩)), .pointer (some p), .int .u64 409]) w := by kernel_rfl
theorem mk38 (p : Addr) (w : World) : (Extern.ReflectliteValue.mk 38 p Extern.ReflectliteValue.flagAddr).run Tryd.prog w = .ok (.agg #[(.pointer (some ⟨1, 38, none⟩)), .pointer (some p), .int .u64 386]) w := by kernel_rfl
theorem mm_AssignableTo (h : Value) (w : World) : (method (mdepth Tryd.prog) 121 (.agg #[h]) "AssignableTo").run Tryd.prog w = .ok (112, .agg #[h]) w := by kernel_rfl
theorem mm_Comparable (h : Value) (w : World) : (method (mdepth Tryd.prog) 121 (.agg #[h]) "Comparable").run Tryd.prog w = .ok (113, .agg #[h]) w := by kernel_rfl
theorem mm_Elem (h : Value) (w : World) : (method (mdepth Tryd.prog) 121 (.agg #[h]) "Elem").run Tryd.prog w = .ok (114, .agg #[h]) w := by kernel_rfl
theorem mm_Implements (h : Value) (w : World) : (method (mdepth Tryd.prog) 121 (.agg #[h]) "Implements").run Tryd.prog w = .ok (115, .agg #[h]) w := by kernel_rfl
theorem mm_Kind (h : Value) (w : World) : (method (mdepth Tryd.prog) 121 (.agg #[h]) "Kind").run Tryd.prog w = .ok (102, h) w := by kernel_rfl
theorem mr_AssignableTo_0_103 (w : World) : ((Extern.ReflectliteType.relation "AssignableTo" Extern.ReflectliteType.assignableTo) #[.agg #[(.pointer (some ⟨1, 0, none⟩))], (.iface 121 (.agg #[.pointer (some ⟨1, 103, none⟩)]))]).run Tryd.prog w = .ok (.bool false) w := by kernel_rfl
theorem mr_AssignableTo_0_38 (w : World) : ((Extern.ReflectliteType.relation "AssignableTo" Extern.ReflectliteType.assignableTo) #[.agg #[(.pointer (some ⟨1, 0, none⟩))], (.iface 121 (.agg #[.pointer (some ⟨1, 38, none⟩)]))]).run Tryd.prog w = .ok (.bool false) w := by kernel_rfl
theorem mr_AssignableTo_103_103 (w : World) : ((Extern.ReflectliteType.relation "AssignableTo" Extern.ReflectliteType.assignableTo) #[.agg #[(.pointer (some ⟨1, 103, none⟩))], (.iface 121 (.agg #[.pointer (some ⟨1, 103, none⟩)]))]).run Tryd.prog w = .ok (.bool true) w := by kernel_rfl
theorem mr_AssignableTo_103_38 (w : World) : ((Extern.ReflectliteType.relation "AssignableTo" Extern.ReflectliteType.assignableTo) #[.agg #[(.pointer (some ⟨1, 103, none⟩))], (.iface 121 (.agg #[.pointer (some ⟨1, 38, none⟩)]))]).run Tryd.prog w = .ok (.bool false) w := by kernel_rfl
theorem mr_AssignableTo_38_103 (w : World) : ((Extern.ReflectliteType.relation "AssignableTo" Extern.ReflectliteType.assignableTo) #[.agg #[(.pointer (some ⟨1, 38, none⟩))], (.iface 121 (.agg #[.pointer (some ⟨1, 103, none⟩)]))]).run Tryd.prog w = .ok (.bool false) w := by kernel_rfl
theorem mr_AssignableTo_38_38 (w : World) : ((Extern.ReflectliteType.relation "AssignableTo" Extern.ReflectliteType.assignableTo) #[.agg #[(.pointer (some ⟨1, 38, none⟩))], (.iface 121 (.agg #[.pointer (some ⟨1, 38, none⟩)]))]).run Tryd.prog w = .ok (.bool true) w := by kernel_rfl
theorem mr_Comparable_38 (w : World) : ((Extern.ReflectliteType.method fun t => do Extern.Rtype.noPackHeld "Comparable" t; pure (.bool (← typeInfo t).comparable)) #[.agg #[(.pointer (some ⟨1, 38, none⟩))]]).run Tryd.prog w = .ok (.bool true) w := by kernel_rfl
theorem mr_Elem_104 (w : World) : ((Extern.ReflectliteType.method Extern.ReflectliteType.elem) #[.agg #[(.pointer (some ⟨1, 104, none⟩))]]).run Tryd.prog w = .ok (.iface 121 (.agg #[.pointer (some ⟨1, 103, none⟩)])) w := by kernel_rfl
theorem mr_Elem_97 (w : World) : ((Extern.ReflectliteType.method Extern.ReflectliteType.elem) #[.agg #[(.pointer (some ⟨1, 97, none⟩))]]).run Tryd.prog w = .ok (.iface 121 (.agg #[.pointer (some ⟨1, 38, none⟩)])) w := by kernel_rfl
theorem mr_Implements_103_30 (w : World) : ((Extern.ReflectliteType.relation "Implements" Extern.ReflectliteType.implements_) #[.agg #[(.pointer (some ⟨1, 103, none⟩))], (.iface 121 (.agg #[.pointer (some ⟨1, 30, none⟩)]))]).run Tryd.prog w = .ok (.bool true) w := by kernel_rfl
theorem mr_Implements_38_30 (w : World) : ((Extern.ReflectliteType.relation "Implements" Extern.ReflectliteType.implements_) #[.agg #[(.pointer (some ⟨1, 38, none⟩))], (.iface 121 (.agg #[.pointer (some ⟨1, 30, none⟩)]))]).run Tryd.prog w = .ok (.bool true) w := by kernel_rfl
theorem mr_Kind_103 (w : World) : ((Extern.ReflectliteType.abiMethod fun t => do pure (.int .u8 (← Extern.Rtype.kind t))) #[(.pointer (some ⟨1, 103, none⟩))]).run Tryd.prog w = .ok (.int .u8 (25 : Int)) w := by kernel_rfl
theorem mr_Kind_104 (w : World) : ((Extern.ReflectliteType.abiMethod fun t => do pure (.int .u8 (← Extern.Rtype.kind t))) #[(.pointer (some ⟨1, 104, none⟩))]).run Tryd.prog w = .ok (.int .u8 (22 : Int)) w := by kernel_rfl
theorem mr_Kind_38 (w : World) : ((Extern.ReflectliteType.abiMethod fun t => do pure (.int .u8 (← Extern.Rtype.kind t))) #[(.pointer (some ⟨1, 38, none⟩))]).run Tryd.prog w = .ok (.int .u8 (2 : Int)) w := by kernel_rfl
theorem mr_Kind_97 (w : World) : ((Extern.ReflectliteType.abiMethod fun t => do pure (.int .u8 (← Extern.Rtype.kind t))) #[(.pointer (some ⟨1, 97, none⟩))]).run Tryd.prog w = .ok (.int .u8 (22 : Int)) w := by kernel_rfl
theorem pl104 : plainT Tryd.prog 104 = true := by kernel_rfl
theorem pl22 : plainT Tryd.prog 22 = true := by kernel_rfl
theorem pl28 : plainT Tryd.prog 28 = true := by kernel_rfl
theorem pl3 : plainT Tryd.prog 3 = true := by kernel_rfl
theorem pl30 : plainT Tryd.prog 30 = true := by kernel_rfl
theorem pl33 : plainT Tryd.prog 33 = true := by kernel_rfl
theorem pl38 : plainT Tryd.prog 38 = true := by kernel_rfl
theorem pl4 : plainT Tryd.prog 4 = true := by kernel_rfl
theorem pl5 : plainT Tryd.prog 5 = true := by kernel_rfl
theorem pl9 : plainT Tryd.prog 9 = true := by kernel_rfl
theorem pl93 : plainT Tryd.prog 93 = true := by kernel_rfl
theorem pl97 : plainT Tryd.prog 97 = true := by kernel_rfl
theorem pl99 : plainT Tryd.prog 99 = true := by kernel_rfl
theorem pp103_153 (a : Addr) (w : World) : (Extern.ReflectliteValue.parts (.agg #[(.pointer (some ⟨1, 103, none⟩)), .pointer (some a), .int .u64 153])).run Tryd.prog w = .ok (some (103, a, 153)) w := by kernel_rfl
theorem pp103_409 (a : Addr) (w : World) : (Extern.ReflectliteValue.parts (.agg #[(.pointer (some ⟨1, 103, none⟩)), .pointer (some a), .int .u64 409])).run Tryd.prog w = .ok (some (103, a, 409)) w := by kernel_rfl
theorem pp104_150 (a : Addr) (w : World) : (Extern.ReflectliteValue.parts (.agg #[(.pointer (some ⟨1, 104, none⟩)), .pointer (some a), .int .u64 150])).run Tryd.prog w = .ok (some (104, a, 150)) w := by kernel_rfl
theorem pp38_130 (a : Addr) (w : World) : (Extern.ReflectliteValue.parts (.agg #[(.pointer (some ⟨1, 38, none⟩)), .pointer (some a), .int .u64 130])).run Tryd.prog w = .ok (some (38, a, 130)) w := by kernel_rfl
theorem pp38_386 (a : Addr) (w : World) : (Extern.ReflectliteValue.parts (.agg #[(.pointer (some ⟨1, 38, none⟩)), .pointer (some a), .int .u64 386])).run Tryd.prog w = .ok (some (38, a, 386)) w := by kernel_rfl
theorem pp97_150 (a : Addr) (w : World) : (Extern.ReflectliteValue.parts (.agg #[(.pointer (some ⟨1, 97, none⟩)), .pointer (some a), .int .u64 150])).run Tryd.prog w = .ok (some (97, a, 150)) w := by kernel_rfl
theorem sz103 : (Tryd.prog.info? 103).map (·.size) = some 3 := by kernel_rfl
theorem sz113 : (Tryd.prog.info? 113).map (·.size) = some 3 := by kernel_rfl
theorem sz22 : (Tryd.prog.info? 22).map (·.size) = some 1 := by kernel_rfl
theorem sz24 : (Tryd.prog.info? 24).map (·.size) = some 18 := by kernel_rfl
theorem sz28 : (Tryd.prog.info? 28).map (·.size) = some 1 := by kernel_rfl
theorem sz3 : (Tryd.prog.info? 3).map (·.size) = some 1 := by kernel_rfl
theorem sz30 : (Tryd.prog.info? 30).map (·.size) = some 1 := by kernel_rfl
theorem sz38 : (Tryd.prog.info? 38).map (·.size) = some 1 := by kernel_rfl
theorem sz4 : (Tryd.prog.info? 4).map (·.size) = some 1 := by kernel_rfl
theorem sz47 : (Tryd.prog.info? 47).map (·.size) = some 3 := by kernel_rfl
theorem sz5 : (Tryd.prog.info? 5).map (·.size) = some 1 := by kernel_rfl
theorem sz84 : (Tryd.prog.info? 84).map (·.size) = some 9 := by kernel_rfl
theorem sz86 : (Tryd.prog.info? 86).map (·.size) = some 4 := by kernel_rfl
theorem sz9 : (Tryd.prog.info? 9).map (·.size) = some 1 := by kernel_rfl
theorem sz93 : (Tryd.prog.info? 93).map (·.size) = some 1 := by kernel_rfl
theorem ty0 (v : Value) (w : World) : (Extern.ReflectliteType.typeOf #[.iface 0 v]).run Tryd.prog w = .ok (.iface 121 (.agg #[(.pointer (some ⟨1, 0, none⟩))])) w := by kernel_rfl
theorem ty103 (v : Value) (w : World) : (Extern.ReflectliteType.typeOf #[.iface 103 v]).run Tryd.prog w = .ok (.iface 121 (.agg #[(.pointer (some ⟨1, 103, none⟩))])) w := by kernel_rfl
theorem ty38 (v : Value) (w : World) : (Extern.ReflectliteType.typeOf #[.iface 38 v]).run Tryd.prog w = .ok (.iface 121 (.agg #[(.pointer (some ⟨1, 38, none⟩))])) w := by kernel_rfl
theorem tyNil (w : World) : (Extern.ReflectliteType.typeOf #[.nilIface]).run Tryd.prog w = .ok .nilIface w := by kernel_rfl
theorem us25 : (Tryd.prog.underlying 25).isSome = true := by kernel_rfl
theorem us3 : (Tryd.prog.underlying 3).isSome = true := by kernel_rfl
theorem us5 : (Tryd.prog.underlying 5).isSome = true := by kernel_rfl
theorem us93 : (Tryd.prog.underlying 93).isSome = true := by kernel_rfl
theorem vo103 (o : ByteArray) (n : Int) (e : Value) (w : World) : (Extern.ReflectliteValue.unpack (.iface 103 (.agg #[.string o, .int .i64 n, e]))).run Tryd.prog w = .ok (.agg #[(.pointer (some ⟨1, 103, none⟩)), .pointer (some ⟨w.heap.size, 0, none⟩), .int .u64 153]) (w.alloc (.cells #[.string o, .int .i64 n, e] 103)) := by kernel_rfl
theorem vo104 (p : Addr) (w : World) : (Extern.ReflectliteValue.unpack (.iface 104 (.pointer (some p)))).run Tryd.prog w = .ok (.agg #[(.pointer (some ⟨1, 104, none⟩)), .pointer (some ⟨w.heap.size, 0, none⟩), .int .u64 150]) (w.alloc (.cells #[.pointer (some p)] 104)) := by kernel_rfl
theorem vo38 (n : Int) (w : World) : (Extern.ReflectliteValue.unpack (.iface 38 (.int .i64 n))).run Tryd.prog w = .ok (.agg #[(.pointer (some ⟨1, 38, none⟩)), .pointer (some ⟨w.heap.size, 0, none⟩), .int .u64 130]) (w.alloc (.cells #[.int .i64 n] 38)) := by kernel_rfl
theorem vo97 (p : Addr) (w : World) : (Extern.ReflectliteValue.unpack (.iface 97 (.pointer (some p)))).run Tryd.prog w = .ok (.agg #[(.pointer (some ⟨1, 97, none⟩)), .pointer (some ⟨w.heap.size, 0, none⟩), .int .u64 150]) (w.alloc (.cells #[.pointer (some p)] 97)) := by kernel_rfl
theorem vt104_150 (a : Addr) (w : World) : ((Extern.ReflectliteValue.methodAny (Extern.ReflectliteValue.valueError "reflectlite.Value.Type" 0) (fun t _ _ _ => Extern.ReflectliteType.toType t)) #[.agg #[(.pointer (some ⟨1, 104, none⟩)), .pointer (some a), .int .u64 150]]).run Tryd.prog w = .ok (.iface 121 (.agg #[(.pointer (some ⟨1, 104, none⟩))])) w := by kernel_rfl
theorem vt97_150 (a : Addr) (w : World) : ((Extern.ReflectliteValue.methodAny (Extern.ReflectliteValue.valueError "reflectlite.Value.Type" 0) (fun t _ _ _ => Extern.ReflectliteType.toType t)) #[.agg #[(.pointer (some ⟨1, 97, none⟩)), .pointer (some a), .int .u64 150]]).run Tryd.prog w = .ok (.iface 121 (.agg #[(.pointer (some ⟨1, 97, none⟩))])) w := by kernel_rfl
theorem xt102 : ExtOk Tryd.prog 102 (Extern.ReflectliteType.abiMethod fun t => do pure (.int .u8 (← Extern.Rtype.kind t))) := fun args w => run_callFunc_extern (e := (Extern.ReflectliteType.abiMethod fun t => do pure (.int .u8 (← Extern.Rtype.kind t)))) Tryd.func102 (by kernel_rfl) (by kernel_rfl) (by kernel_rfl) (by kernel_rfl) args w
theorem xt112 : ExtOk Tryd.prog 112 (Extern.ReflectliteType.relation "AssignableTo" Extern.ReflectliteType.assignableTo) := fun args w => run_callFunc_extern (e := (Extern.ReflectliteType.relation "AssignableTo" Extern.ReflectliteType.assignableTo)) Tryd.func112 (by kernel_rfl) (by kernel_rfl) (by kernel_rfl) (by kernel_rfl) args w
theorem xt113 : ExtOk Tryd.prog 113 (Extern.ReflectliteType.method fun t => do Extern.Rtype.noPackHeld "Comparable" t; pure (.bool (← typeInfo t).comparable)) := fun args w => run_callFunc_extern (e := (Extern.ReflectliteType.method fun t => do Extern.Rtype.noPackHeld "Comparable" t; pure (.bool (← typeInfo t).comparable))) Tryd.func113 (by kernel_rfl) (by kernel_rfl) (by kernel_rfl) (by kernel_rfl) args w
theorem xt114 : ExtOk Tryd.prog 114 (Extern.ReflectliteType.method Extern.ReflectliteType.elem) := fun args w => run_callFunc_extern (e := (Extern.ReflectliteType.method Extern.ReflectliteType.elem)) Tryd.func114 (by kernel_rfl) (by kernel_rfl) (by kernel_rfl) (by kernel_rfl) args w
theorem xt115 : ExtOk Tryd.prog 115 (Extern.ReflectliteType.relation "Implements" Extern.ReflectliteType.implements_) := fun args w => run_callFunc_extern (e := (Extern.ReflectliteType.relation "Implements" Extern.ReflectliteType.implements_)) Tryd.func115 (by kernel_rfl) (by kernel_rfl) (by kernel_rfl) (by kernel_rfl) args w
theorem xt71 : ExtOk Tryd.prog 71 Extern.ReflectliteType.typeOf := fun args w => run_callFunc_extern (e := Extern.ReflectliteType.typeOf) Tryd.func71 (by kernel_rfl) (by kernel_rfl) (by kernel_rfl) (by kernel_rfl) args w
theorem xt80 : ExtOk Tryd.prog 80 (fun args => Extern.ReflectliteValue.unpack (args.getD 0 (.tuple #[]))) := fun args w => run_callFunc_extern (e := (fun args => Extern.ReflectliteValue.unpack (args.getD 0 (.tuple #[])))) Tryd.func80 (by kernel_rfl) (by kernel_rfl) (by kernel_rfl) (by kernel_rfl) args w
theorem xt81 : ExtOk Tryd.prog 81 (Extern.ReflectliteValue.methodAny (Extern.ReflectliteValue.valueError "reflectlite.Value.Type" 0) (fun t _ _ _ => Extern.ReflectliteType.toType t)) := fun args w => run_callFunc_extern (e := (Extern.ReflectliteValue.methodAny (Extern.ReflectliteValue.valueError "reflectlite.Value.Type" 0) (fun t _ _ _ => Extern.ReflectliteType.toType t))) Tryd.func81 (by kernel_rfl) (by kernel_rfl) (by kernel_rfl) (by kernel_rfl) args w
theorem xt82 : ExtOk Tryd.prog 82 (Extern.ReflectliteValue.method (Extern.ReflectliteValue.valueError "reflectlite.Value.IsNil" 0) Extern.ReflectliteValue.isNil) := fun args w => run_callFunc_extern (e := (Extern.ReflectliteValue.method (Extern.ReflectliteValue.valueError "reflectlite.Value.IsNil" 0) Extern.ReflectliteValue.isNil)) Tryd.func82 (by kernel_rfl) (by kernel_rfl) (by kernel_rfl) (by kernel_rfl) args w
theorem xt85 : ExtOk Tryd.prog 85 (Extern.ReflectliteValue.method (Extern.ReflectliteValue.valueError "reflectlite.Value.Elem" 0) Extern.ReflectliteValue.elem) := fun args w => run_callFunc_extern (e := (Extern.ReflectliteValue.method (Extern.ReflectliteValue.valueError "reflectlite.Value.Elem" 0) Extern.ReflectliteValue.elem)) Tryd.func85 (by kernel_rfl) (by kernel_rfl) (by kernel_rfl) (by kernel_rfl) args w
theorem xt86 : ExtOk Tryd.prog 86 Extern.ReflectliteValue.set := fun args w => run_callFunc_extern (e := Extern.ReflectliteValue.set) Tryd.func86 (by kernel_rfl) (by kernel_rfl) (by kernel_rfl) (by kernel_rfl) args w
theorem ze103 : (Tryd.prog.info? 103).map (·.zero) = some (some (.agg #[(.string (⟨#[]⟩ : ByteArray)), (.int .i64 (0 : Int)), (.nilIface)])) := by kernel_rfl
theorem ze113 : (Tryd.prog.info? 113).map (·.zero) = some (some (.agg #[(.pointer none), (.pointer none), (.int .u64 (0 : Int))])) := by kernel_rfl
theorem ze24 : (Tryd.prog.info? 24).map (·.zero) = some (some (.agg #[(.int .i64 (0 : Int)), (.int .i64 (0 : Int)), (.int .i64 (0 : Int)), (.int .i64 (0 : Int)), (.int .i64 (0 : Int)), (.int .i64 (0 : Int)), (.int .i64 (0 : Int)), (.int .i64 (0 : Int)), (.int .i64 (0 : Int)), (.bool false), (.string (⟨#[]⟩ : ByteArray)), (.string (⟨#[]⟩ : ByteArray)), (.string (⟨#[]⟩ : ByteArray)), (.string (⟨#[]⟩ : ByteArray)), (.slice none 0 0), (.slice none 0 0), (.slice none 0 0), (.slice none 0 0)])) := by kernel_rfl
theorem ze28 : (Tryd.prog.info? 28).map (·.zero) = some (some (.slice none 0 0)) := by kernel_rfl
theorem ze3 : (Tryd.prog.info? 3).map (·.zero) = some (some (.int .i64 (0 : Int))) := by kernel_rfl
theorem ze38 : (Tryd.prog.info? 38).map (·.zero) = some (some (.int .i64 (0 : Int))) := by kernel_rfl
theorem ze47 : (Tryd.prog.info? 47).map (·.zero) = some (some (.agg #[(.string (⟨#[]⟩ : ByteArray)), (.int .i64 (0 : Int)), (.int .i64 (0 : Int))])) := by kernel_rfl
theorem ze63 : (Tryd.prog.info? 63).map (·.zero) = some (some (.agg #[(.slice none 0 0), (.int .i64 (0 : Int)), (.nilIface)])) := by kernel_rfl
theorem ze84 : (Tryd.prog.info? 84).map (·.zero) = some (some (.agg #[(.int .i64 (0 : Int)), (.int .i64 (0 : Int)), (.int .i64 (0 : Int)), (.int .i64 (0 : Int)), (.int .i64 (0 : Int)), (.int .i64 (0 : Int)), (.int .i64 (0 : Int)), (.int .i64 (0 : Int)), (.int .i64 (0 : Int))])) := by kernel_rfl
theorem ze86 : (Tryd.prog.info? 86).map (·.zero) = some (some (.agg #[(.string (⟨#[]⟩ : ByteArray)), (.string (⟨#[]⟩ : ByteArray)), (.string (⟨#[]⟩ : ByteArray)), (.string (⟨#[]⟩ : ByteArray))])) := by kernel_rfl
theorem ze93 : (Tryd.prog.info? 93).map (·.zero) = some (some (.int .u64 (0 : Int))) := by kernel_rfl
theorem zo123 : (Tryd.prog.info? 123).map (·.zero) = some (some .nilIface) := by kernel_rfl
theorem zo126 : (Tryd.prog.info? 126).map (·.zero) = some (some .nilIface) := by kernel_rfl
theorem zo127 : (Tryd.prog.info? 127).map (·.zero) = some (some .nilIface) := by kernel_rfl
theorem mixed : Tryd.prog.follows .mixedOrders = true := by kernel_rfl

end Go.Proofs.YtafkdjljkolehaaDoor.G
