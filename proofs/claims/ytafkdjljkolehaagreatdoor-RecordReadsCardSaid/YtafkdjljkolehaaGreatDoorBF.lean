/- Closed facts on the program's types. Printed by a program of the session (gen). -/
import Derived.Test.YtafkdjljkolehaaGreatDoorBT
import Derived.Test.YtafkdjljkolehaaGreatDoorProg
set_option linter.unusedVariables false
set_option linter.unusedSimpArgs false
set_option maxHeartbeats 8000000
set_option maxRecDepth 100000
namespace Go.Proofs.YtafkdjljkolehaaGreatDoor.G
open Go Go.KK

def Env (M : IM) : Prop := M.cell ⟨0, 0, none⟩ = some (.iface 133 (.agg #[(.pointer (some ⟨1, 41, none⟩))]))
theorem Env.mono {M M' : IM} (h : Env M) (hle : M.le M') : Env M' := hle.cell h
theorem ag104 : aggB Tryz.prog 104 = true := by kernel_rfl
theorem ag118 : aggB Tryz.prog 118 = true := by kernel_rfl
theorem ag29 : aggB Tryz.prog 29 = true := by kernel_rfl
theorem ag35 : aggB Tryz.prog 35 = true := by kernel_rfl
theorem ag44 : aggB Tryz.prog 44 = true := by kernel_rfl
theorem ag84 : aggB Tryz.prog 84 = true := by kernel_rfl
theorem ag86 : aggB Tryz.prog 86 = true := by kernel_rfl
theorem ag96 : aggB Tryz.prog 96 = true := by kernel_rfl
theorem cc104 : Tryz.prog.concrete 104 = true := by kernel_rfl
theorem cc105 : Tryz.prog.concrete 105 = true := by kernel_rfl
theorem cc27 : Tryz.prog.concrete 27 = true := by kernel_rfl
theorem cc94 : Tryz.prog.concrete 94 = true := by kernel_rfl
theorem cm27 : (Tryz.prog.info? 27).map (·.comparable) = some true := by kernel_rfl
theorem co10 : callOk Tryz.prog 10 = true := by kernel_rfl
theorem co11 : callOk Tryz.prog 11 = true := by kernel_rfl
theorem co110 : callOk Tryz.prog 110 = true := by kernel_rfl
theorem co12 : callOk Tryz.prog 12 = true := by kernel_rfl
theorem co13 : callOk Tryz.prog 13 = true := by kernel_rfl
theorem co14 : callOk Tryz.prog 14 = true := by kernel_rfl
theorem co15 : callOk Tryz.prog 15 = true := by kernel_rfl
theorem co16 : callOk Tryz.prog 16 = true := by kernel_rfl
theorem co17 : callOk Tryz.prog 17 = true := by kernel_rfl
theorem co18 : callOk Tryz.prog 18 = true := by kernel_rfl
theorem co19 : callOk Tryz.prog 19 = true := by kernel_rfl
theorem co20 : callOk Tryz.prog 20 = true := by kernel_rfl
theorem co21 : callOk Tryz.prog 21 = true := by kernel_rfl
theorem co22 : callOk Tryz.prog 22 = true := by kernel_rfl
theorem co23 : callOk Tryz.prog 23 = true := by kernel_rfl
theorem co24 : callOk Tryz.prog 24 = true := by kernel_rfl
theorem co25 : callOk Tryz.prog 25 = true := by kernel_rfl
theorem co26 : callOk Tryz.prog 26 = true := by kernel_rfl
theorem co27 : callOk Tryz.prog 27 = true := by kernel_rfl
theorem co28 : callOk Tryz.prog 28 = true := by kernel_rfl
theorem co29 : callOk Tryz.prog 29 = true := by kernel_rfl
theorem co30 : callOk Tryz.prog 30 = true := by kernel_rfl
theorem co31 : callOk Tryz.prog 31 = true := by kernel_rfl
theorem co32 : callOk Tryz.prog 32 = true := by kernel_rfl
theorem co33 : callOk Tryz.prog 33 = true := by kernel_rfl
theorem co34 : callOk Tryz.prog 34 = true := by kernel_rfl
theorem co35 : callOk Tryz.prog 35 = true := by kernel_rfl
theorem co36 : callOk Tryz.prog 36 = true := by kernel_rfl
theorem co37 : callOk Tryz.prog 37 = true := by kernel_rfl
theorem co38 : callOk Tryz.prog 38 = true := by kernel_rfl
theorem co39 : callOk Tryz.prog 39 = true := by kernel_rfl
theorem co4 : callOk Tryz.prog 4 = true := by kernel_rfl
theorem co40 : callOk Tryz.prog 40 = true := by kernel_rfl
theorem co41 : callOk Tryz.prog 41 = true := by kernel_rfl
theorem co42 : callOk Tryz.prog 42 = true := by kernel_rfl
theorem co43 : callOk Tryz.prog 43 = true := by kernel_rfl
theorem co44 : callOk Tryz.prog 44 = true := by kernel_rfl
theorem co45 : callOk Tryz.prog 45 = true := by kernel_rfl
theorem co46 : callOk Tryz.prog 46 = true := by kernel_rfl
theorem co47 : callOk Tryz.prog 47 = true := by kernel_rfl
theorem co48 : callOk Tryz.prog 48 = true := by kernel_rfl
theorem co49 : callOk Tryz.prog 49 = true := by kernel_rfl
theorem co5 : callOk Tryz.prog 5 = true := by kernel_rfl
theorem co50 : callOk Tryz.prog 50 = true := by kernel_rfl
theorem co51 : callOk Tryz.prog 51 = true := by kernel_rfl
theorem co52 : callOk Tryz.prog 52 = true := by kernel_rfl
theorem co53 : callOk Tryz.prog 53 = true := by kernel_rfl
theorem co54 : callOk Tryz.prog 54 = true := by kernel_rfl
theorem co55 : callOk Tryz.prog 55 = true := by kernel_rfl
theorem co56 : callOk Tryz.prog 56 = true := by kernel_rfl
theorem co57 : callOk Tryz.prog 57 = true := by kernel_rfl
theorem co58 : callOk Tryz.prog 58 = true := by kernel_rfl
theorem co59 : callOk Tryz.prog 59 = true := by kernel_rfl
theorem co6 : callOk Tryz.prog 6 = true := by kernel_rfl
theorem co60 : callOk Tryz.prog 60 = true := by kernel_rfl
theorem co61 : callOk Tryz.prog 61 = true := by kernel_rfl
theorem co62 : callOk Tryz.prog 62 = true := by kernel_rfl
theorem co63 : callOk Tryz.prog 63 = true := by kernel_rfl
theorem co64 : callOk Tryz.prog 64 = true := by kernel_rfl
theorem co65 : callOk Tryz.prog 65 = true := by kernel_rfl
theorem co66 : callOk Tryz.prog 66 = true := by kernel_rfl
theorem co67 : callOk Tryz.prog 67 = true := by kernel_rfl
theorem co68 : callOk Tryz.prog 68 = true := by kernel_rfl
theorem co69 : callOk Tryz.prog 69 = true := by kernel_rfl
theorem co7 : callOk Tryz.prog 7 = true := by kernel_rfl
theorem co70 : callOk Tryz.prog 70 = true := by kernel_rfl
theorem co71 : callOk Tryz.prog 71 = true := by kernel_rfl
theorem co72 : callOk Tryz.prog 72 = true := by kernel_rfl
theorem co74 : callOk Tryz.prog 74 = true := by kernel_rfl
theorem co75 : callOk Tryz.prog 75 = true := by kernel_rfl
theorem co76 : callOk Tryz.prog 76 = true := by kernel_rfl
theorem co8 : callOk Tryz.prog 8 = true := by kernel_rfl
theorem co80 : callOk Tryz.prog 80 = true := by kernel_rfl
theorem co81 : callOk Tryz.prog 81 = true := by kernel_rfl
theorem co82 : callOk Tryz.prog 82 = true := by kernel_rfl
theorem co83 : callOk Tryz.prog 83 = true := by kernel_rfl
theorem co84 : callOk Tryz.prog 84 = true := by kernel_rfl
theorem co85 : callOk Tryz.prog 85 = true := by kernel_rfl
theorem co86 : callOk Tryz.prog 86 = true := by kernel_rfl
theorem co87 : callOk Tryz.prog 87 = true := by kernel_rfl
theorem co9 : callOk Tryz.prog 9 = true := by kernel_rfl
theorem co90 : callOk Tryz.prog 90 = true := by kernel_rfl
theorem da104 (w : World) : (Extern.Rtype.directlyAssignable 104 104).run Tryz.prog w = .ok true w := by kernel_rfl
theorem da27 (w : World) : (Extern.Rtype.directlyAssignable 27 27).run Tryz.prog w = .ok true w := by kernel_rfl
theorem eg84 : Tryz.prog.eqGuardType Tryz.prog.depth 84 = false := by kernel_rfl
theorem eg86 : Tryz.prog.eqGuardType Tryz.prog.depth 86 = false := by kernel_rfl
theorem el105 (w : World) : (Extern.Rtype.elem? 105).run Tryz.prog w = .ok (some 104) w := by kernel_rfl
theorem el94 (w : World) : (Extern.Rtype.elem? 94).run Tryz.prog w = .ok (some 27) w := by kernel_rfl
theorem fo100_0 : fldOff Tryz.prog 100 0 = some 0 := by kernel_rfl
theorem fo100_1 : fldOff Tryz.prog 100 1 = some 1 := by kernel_rfl
theorem fo100_2 : fldOff Tryz.prog 100 2 = some 2 := by kernel_rfl
theorem fo104_0 : fldOff Tryz.prog 104 0 = some 0 := by kernel_rfl
theorem fo104_1 : fldOff Tryz.prog 104 1 = some 1 := by kernel_rfl
theorem fo104_2 : fldOff Tryz.prog 104 2 = some 2 := by kernel_rfl
theorem fo29_0 : fldOff Tryz.prog 29 0 = some 0 := by kernel_rfl
theorem fo29_1 : fldOff Tryz.prog 29 1 = some 1 := by kernel_rfl
theorem fo29_2 : fldOff Tryz.prog 29 2 = some 2 := by kernel_rfl
theorem fo29_3 : fldOff Tryz.prog 29 3 = some 3 := by kernel_rfl
theorem fo31_0 : fldOff Tryz.prog 31 0 = some 0 := by kernel_rfl
theorem fo31_1 : fldOff Tryz.prog 31 1 = some 1 := by kernel_rfl
theorem fo35_0 : fldOff Tryz.prog 35 0 = some 0 := by kernel_rfl
theorem fo35_1 : fldOff Tryz.prog 35 1 = some 1 := by kernel_rfl
theorem fo35_10 : fldOff Tryz.prog 35 10 = some 10 := by kernel_rfl
theorem fo35_11 : fldOff Tryz.prog 35 11 = some 11 := by kernel_rfl
theorem fo35_12 : fldOff Tryz.prog 35 12 = some 12 := by kernel_rfl
theorem fo35_13 : fldOff Tryz.prog 35 13 = some 13 := by kernel_rfl
theorem fo35_14 : fldOff Tryz.prog 35 14 = some 14 := by kernel_rfl
theorem fo35_15 : fldOff Tryz.prog 35 15 = some 15 := by kernel_rfl
theorem fo35_16 : fldOff Tryz.prog 35 16 = some 16 := by kernel_rfl
theorem fo35_17 : fldOff Tryz.prog 35 17 = some 17 := by kernel_rfl
theorem fo35_2 : fldOff Tryz.prog 35 2 = some 2 := by kernel_rfl
theorem fo35_3 : fldOff Tryz.prog 35 3 = some 3 := by kernel_rfl
theorem fo35_4 : fldOff Tryz.prog 35 4 = some 4 := by kernel_rfl
theorem fo35_5 : fldOff Tryz.prog 35 5 = some 5 := by kernel_rfl
theorem fo35_6 : fldOff Tryz.prog 35 6 = some 6 := by kernel_rfl
theorem fo35_7 : fldOff Tryz.prog 35 7 = some 7 := by kernel_rfl
theorem fo35_8 : fldOff Tryz.prog 35 8 = some 8 := by kernel_rfl
theorem fo35_9 : fldOff Tryz.prog 35 9 = some 9 := by kernel_rfl
theorem fo44_0 : fldOff Tryz.prog 44 0 = some 0 := by kernel_rfl
theorem fo44_1 : fldOff Tryz.prog 44 1 = some 1 := by kernel_rfl
theorem fo44_2 : fldOff Tryz.prog 44 2 = some 2 := by kernel_rfl
theorem fo53_0 : fldOff Tryz.prog 53 0 = some 0 := by kernel_rfl
theorem fo53_1 : fldOff Tryz.prog 53 1 = some 1 := by kernel_rfl
theorem fo53_2 : fldOff Tryz.prog 53 2 = some 2 := by kernel_rfl
theorem fo96_0 : fldOff Tryz.prog 96 0 = some 0 := by kernel_rfl
theorem fo96_1 : fldOff Tryz.prog 96 1 = some 1 := by kernel_rfl
theorem fo96_2 : fldOff Tryz.prog 96 2 = some 2 := by kernel_rfl
theorem fo96_3 : fldOff Tryz.prog 96 3 = some 3 := by kernel_rfl
theorem fp100 : fldPlace Tryz.prog 100 = some [(0, 1), (1, 1), (2, 1)] := by kernel_rfl
theorem fp104 : fldPlace Tryz.prog 104 = some [(0, 1), (1, 1), (2, 1)] := by kernel_rfl
theorem fp29 : fldPlace Tryz.prog 29 = some [(0, 1), (1, 1), (2, 1), (3, 1)] := by kernel_rfl
theorem fp31 : fldPlace Tryz.prog 31 = some [(0, 1), (1, 4)] := by kernel_rfl
theorem fp35 : fldPlace Tryz.prog 35 = some [(0, 1), (1, 1), (2, 1), (3, 1), (4, 1), (5, 1), (6, 1), (7, 1), (8, 1), (9, 1), (10, 1), (11, 1), (12, 1), (13, 1), (14, 1), (15, 1), (16, 1), (17, 1)] := by kernel_rfl
theorem fp44 : fldPlace Tryz.prog 44 = some [(0, 1), (1, 1), (2, 1)] := by kernel_rfl
theorem fp53 : fldPlace Tryz.prog 53 = some [(0, 1), (1, 1), (2, 1)] := by kernel_rfl
theorem fp96 : fldPlace Tryz.prog 96 = some [(0, 1), (1, 1), (2, 1), (3, 1)] := by kernel_rfl
theorem ha104_138 (v : Value) (xT : TypeId) (w : World) : (Instr.typeAssert (.iface 104 v) xT 138 true).run Tryz.prog w = .ok (.tuple #[.iface 104 v, .bool true]) w := run_typeAssert_hasB Tryz.underlying138 (by kernel_rfl) v xT w
theorem in3 : (Tryz.prog.info? 3).map (fun i => (i.size, i.bytes, i.zero)) = some (1, 8, some (.int .i64 (0 : Int))) := by kernel_rfl
theorem in5 : (Tryz.prog.info? 5).map (fun i => (i.size, i.bytes, i.zero)) = some (1, 1, some (.int .u8 (0 : Int))) := by kernel_rfl
theorem in9 : (Tryz.prog.info? 9).map (fun i => (i.size, i.bytes, i.zero)) = some (1, 16, some (.string (⟨#[]⟩ : ByteArray))) := by kernel_rfl
theorem iz3 : (Tryz.prog.info? 3).map (fun i => (i.size, i.zero)) = some (1, some (.int .i64 (0 : Int))) := by kernel_rfl
theorem iz5 : (Tryz.prog.info? 5).map (fun i => (i.size, i.zero)) = some (1, some (.int .u8 (0 : Int))) := by kernel_rfl
theorem iz9 : (Tryz.prog.info? 9).map (fun i => (i.size, i.zero)) = some (1, some (.string (⟨#[]⟩ : ByteArray))) := by kernel_rfl
theorem la0_135 (v : Value) (xT : TypeId) (w : World) : (Instr.typeAssert (.iface 0 v) xT 135 true).run Tryz.prog w = .ok (.tuple #[.nilIface, .bool false]) w := run_typeAssert_lacksB Tryz.underlying135 (by kernel_rfl) (by kernel_rfl) v xT w
theorem la0_138 (v : Value) (xT : TypeId) (w : World) : (Instr.typeAssert (.iface 0 v) xT 138 true).run Tryz.prog w = .ok (.tuple #[.nilIface, .bool false]) w := run_typeAssert_lacksB Tryz.underlying138 (by kernel_rfl) (by kernel_rfl) v xT w
theorem la0_139 (v : Value) (xT : TypeId) (w : World) : (Instr.typeAssert (.iface 0 v) xT 139 true).run Tryz.prog w = .ok (.tuple #[.nilIface, .bool false]) w := run_typeAssert_lacksB Tryz.underlying139 (by kernel_rfl) (by kernel_rfl) v xT w
theorem la0_144 (v : Value) (xT : TypeId) (w : World) : (Instr.typeAssert (.iface 0 v) xT 144 true).run Tryz.prog w = .ok (.tuple #[.nilIface, .bool false]) w := run_typeAssert_lacksB Tryz.underlying144 (by kernel_rfl) (by kernel_rfl) v xT w
theorem la104_135 (v : Value) (xT : TypeId) (w : World) : (Instr.typeAssert (.iface 104 v) xT 135 true).run Tryz.prog w = .ok (.tuple #[.nilIface, .bool false]) w := run_typeAssert_lacksB Tryz.underlying135 (by kernel_rfl) (by kernel_rfl) v xT w
theorem la104_144 (v : Value) (xT : TypeId) (w : World) : (Instr.typeAssert (.iface 104 v) xT 144 true).run Tryz.prog w = .ok (.tuple #[.nilIface, .bool false]) w := run_typeAssert_lacksB Tryz.underlying144 (by kernel_rfl) (by kernel_rfl) v xT w
theorem la27_135 (v : Value) (xT : TypeId) (w : World) : (Instr.typeAssert (.iface 27 v) xT 135 true).run Tryz.prog w = .ok (.tuple #[.nilIface, .bool false]) w := run_typeAssert_lacksB Tryz.underlying135 (by kernel_rfl) (by kernel_rfl) v xT w
theorem la27_138 (v : Value) (xT : TypeId) (w : World) : (Instr.typeAssert (.iface 27 v) xT 138 true).run Tryz.prog w = .ok (.tuple #[.nilIface, .bool false]) w := run_typeAssert_lacksB Tryz.underlying138 (by kernel_rfl) (by kernel_rfl) v xT w
theorem la27_139 (v : Value) (xT : TypeId) (w : World) : (Instr.typeAssert (.iface 27 v) xT 139 true).run Tryz.prog w = .ok (.tuple #[.nilIface, .bool false]) w := run_typeAssert_lacksB Tryz.underlying139 (by kernel_rfl) (by kernel_rfl) v xT w
theorem la27_144 (v : Value) (xT : TypeId) (w : World) : (Instr.typeAssert (.iface 27 v) xT 144 true).run Tryz.prog w = .ok (.tuple #[.nilIface, .bool false]) w := run_typeAssert_lacksB Tryz.underlying144 (by kernel_rfl) (by kernel_rfl) v xT w
theorem me104_Unwrap (v : Value) (w : World) : (method (mdepth Tryz.prog) 104 v "Unwrap").run Tryz.prog w = .ok (110, v) w := by kernel_rfl
theorem mk104 (p : Addr) (w : World) : (Extern.ReflectliteValue.mk 104 p Extern.ReflectliteValue.flagAddr).run Tryz.prog w = .ok (.agg #[(.pointer (some ⟨1, 104, none⟩)), .pointer (some p), .int .u64 409]) w := by kernel_rfl
theorem mk27 (p : Addr) (w : World) : (Extern.ReflectliteValue.mk 27 p Extern.ReflectliteValue.flagAddr).run Tryz.prog w = .ok (.agg #[(.pointer (some ⟨1, 27, none⟩)), .pointer (some p), .int .u64 386]) w := by kernel_rfl
theorem mm_AssignableTo (h : Value) (w : World) : (method (mdepth Tryz.prog) 133 (.agg #[h]) "AssignableTo").run Tryz.prog w = .ok (115, .agg #[h]) w := by kernel_rfl
theorem mm_Comparable (h : Value) (w : World) : (method (mdepth Tryz.prog) 133 (.agg #[h]) "Comparable").run Tryz.prog w = .ok (116, .agg #[h]) w := by kernel_rfl
theorem mm_Elem (h : Value) (w : World) : (method (mdepth Tryz.prog) 133 (.agg #[h]) "Elem").run Tryz.prog w = .ok (117, .agg #[h]) w := by kernel_rfl
theorem mm_Implements (h : Value) (w : World) : (method (mdepth Tryz.prog) 133 (.agg #[h]) "Implements").run Tryz.prog w = .ok (118, .agg #[h]) w := by kernel_rfl
theorem mm_Kind (h : Value) (w : World) : (method (mdepth Tryz.prog) 133 (.agg #[h]) "Kind").run Tryz.prog w = .ok (105, h) w := by kernel_rfl
theorem mr_AssignableTo_0_104 (w : World) : ((Extern.ReflectliteType.relation "AssignableTo" Extern.ReflectliteType.assignableTo) #[.agg #[(.pointer (some ⟨1, 0, none⟩))], (.iface 133 (.agg #[.pointer (some ⟨1, 104, none⟩)]))]).run Tryz.prog w = .ok (.bool false) w := by kernel_rfl
theorem mr_AssignableTo_0_27 (w : World) : ((Extern.ReflectliteType.relation "AssignableTo" Extern.ReflectliteType.assignableTo) #[.agg #[(.pointer (some ⟨1, 0, none⟩))], (.iface 133 (.agg #[.pointer (some ⟨1, 27, none⟩)]))]).run Tryz.prog w = .ok (.bool false) w := by kernel_rfl
theorem mr_AssignableTo_104_104 (w : World) : ((Extern.ReflectliteType.relation "AssignableTo" Extern.ReflectliteType.assignableTo) #[.agg #[(.pointer (some ⟨1, 104, none⟩))], (.iface 133 (.agg #[.pointer (some ⟨1, 104, none⟩)]))]).run Tryz.prog w = .ok (.bool true) w := by kernel_rfl
theorem mr_AssignableTo_104_27 (w : World) : ((Extern.ReflectliteType.relation "AssignableTo" Extern.ReflectliteType.assignableTo) #[.agg #[(.pointer (some ⟨1, 104, none⟩))], (.iface 133 (.agg #[.pointer (some ⟨1, 27, none⟩)]))]).run Tryz.prog w = .ok (.bool false) w := by kernel_rfl
theorem mr_AssignableTo_27_104 (w : World) : ((Extern.ReflectliteType.relation "AssignableTo" Extern.ReflectliteType.assignableTo) #[.agg #[(.pointer (some ⟨1, 27, none⟩))], (.iface 133 (.agg #[.pointer (some ⟨1, 104, none⟩)]))]).run Tryz.prog w = .ok (.bool false) w := by kernel_rfl
theorem mr_AssignableTo_27_27 (w : World) : ((Extern.ReflectliteType.relation "AssignableTo" Extern.ReflectliteType.assignableTo) #[.agg #[(.pointer (some ⟨1, 27, none⟩))], (.iface 133 (.agg #[.pointer (some ⟨1, 27, none⟩)]))]).run Tryz.prog w = .ok (.bool true) w := by kernel_rfl
theorem mr_Comparable_27 (w : World) : ((Extern.ReflectliteType.method fun t => do Extern.Rtype.noPackHeld "Comparable" t; pure (.bool (← typeInfo t).comparable)) #[.agg #[(.pointer (some ⟨1, 27, none⟩))]]).run Tryz.prog w = .ok (.bool true) w := by kernel_rfl
theorem mr_Elem_105 (w : World) : ((Extern.ReflectliteType.method Extern.ReflectliteType.elem) #[.agg #[(.pointer (some ⟨1, 105, none⟩))]]).run Tryz.prog w = .ok (.iface 133 (.agg #[.pointer (some ⟨1, 104, none⟩)])) w := by kernel_rfl
theorem mr_Elem_94 (w : World) : ((Extern.ReflectliteType.method Extern.ReflectliteType.elem) #[.agg #[(.pointer (some ⟨1, 94, none⟩))]]).run Tryz.prog w = .ok (.iface 133 (.agg #[.pointer (some ⟨1, 27, none⟩)])) w := by kernel_rfl
theorem mr_Implements_104_41 (w : World) : ((Extern.ReflectliteType.relation "Implements" Extern.ReflectliteType.implements_) #[.agg #[(.pointer (some ⟨1, 104, none⟩))], (.iface 133 (.agg #[.pointer (some ⟨1, 41, none⟩)]))]).run Tryz.prog w = .ok (.bool true) w := by kernel_rfl
theorem mr_Implements_27_41 (w : World) : ((Extern.ReflectliteType.relation "Implements" Extern.ReflectliteType.implements_) #[.agg #[(.pointer (some ⟨1, 27, none⟩))], (.iface 133 (.agg #[.pointer (some ⟨1, 41, none⟩)]))]).run Tryz.prog w = .ok (.bool true) w := by kernel_rfl
theorem mr_Kind_104 (w : World) : ((Extern.ReflectliteType.abiMethod fun t => do pure (.int .u8 (← Extern.Rtype.kind t))) #[(.pointer (some ⟨1, 104, none⟩))]).run Tryz.prog w = .ok (.int .u8 (25 : Int)) w := by kernel_rfl
theorem mr_Kind_105 (w : World) : ((Extern.ReflectliteType.abiMethod fun t => do pure (.int .u8 (← Extern.Rtype.kind t))) #[(.pointer (some ⟨1, 105, none⟩))]).run Tryz.prog w = .ok (.int .u8 (22 : Int)) w := by kernel_rfl
theorem mr_Kind_27 (w : World) : ((Extern.ReflectliteType.abiMethod fun t => do pure (.int .u8 (← Extern.Rtype.kind t))) #[(.pointer (some ⟨1, 27, none⟩))]).run Tryz.prog w = .ok (.int .u8 (2 : Int)) w := by kernel_rfl
theorem mr_Kind_94 (w : World) : ((Extern.ReflectliteType.abiMethod fun t => do pure (.int .u8 (← Extern.Rtype.kind t))) #[(.pointer (some ⟨1, 94, none⟩))]).run Tryz.prog w = .ok (.int .u8 (22 : Int)) w := by kernel_rfl
theorem pl105 : plainT Tryz.prog 105 = true := by kernel_rfl
theorem pl110 : plainT Tryz.prog 110 = true := by kernel_rfl
theorem pl22 : plainT Tryz.prog 22 = true := by kernel_rfl
theorem pl24 : plainT Tryz.prog 24 = true := by kernel_rfl
theorem pl27 : plainT Tryz.prog 27 = true := by kernel_rfl
theorem pl3 : plainT Tryz.prog 3 = true := by kernel_rfl
theorem pl33 : plainT Tryz.prog 33 = true := by kernel_rfl
theorem pl4 : plainT Tryz.prog 4 = true := by kernel_rfl
theorem pl41 : plainT Tryz.prog 41 = true := by kernel_rfl
theorem pl5 : plainT Tryz.prog 5 = true := by kernel_rfl
theorem pl9 : plainT Tryz.prog 9 = true := by kernel_rfl
theorem pl90 : plainT Tryz.prog 90 = true := by kernel_rfl
theorem pl94 : plainT Tryz.prog 94 = true := by kernel_rfl
theorem pp104_153 (a : Addr) (w : World) : (Extern.ReflectliteValue.parts (.agg #[(.pointer (some ⟨1, 104, none⟩)), .pointer (some a), .int .u64 153])).run Tryz.prog w = .ok (some (104, a, 153)) w := by kernel_rfl
theorem pp104_409 (a : Addr) (w : World) : (Extern.ReflectliteValue.parts (.agg #[(.pointer (some ⟨1, 104, none⟩)), .pointer (some a), .int .u64 409])).run Tryz.prog w = .ok (some (104, a, 409)) w := by kernel_rfl
theorem pp105_150 (a : Addr) (w : World) : (Extern.ReflectliteValue.parts (.agg #[(.pointer (some ⟨1, 105, none⟩)), .pointer (some a), .int .u64 150])).run Tryz.prog w = .ok (some (105, a, 150)) w := by kernel_rfl
theorem pp27_130 (a : Addr) (w : World) : (Extern.ReflectliteValue.parts (.agg #[(.pointer (some ⟨1, 27, none⟩)), .pointer (some a), .int .u64 130])).run Tryz.prog w = .ok (some (27, a, 130)) w := by kernel_rfl
theorem pp27_386 (a : Addr) (w : World) : (Extern.ReflectliteValue.parts (.agg #[(.pointer (some ⟨1, 27, none⟩)), .pointer (some a), .int .u64 386])).run Tryz.prog w = .ok (some (27, a, 386)) w := by kernel_rfl
theorem pp94_150 (a : Addr) (w : World) : (Extern.ReflectliteValue.parts (.agg #[(.pointer (some ⟨1, 94, none⟩)), .pointer (some a), .int .u64 150])).run Tryz.prog w = .ok (some (94, a, 150)) w := by kernel_rfl
theorem sz104 : (Tryz.prog.info? 104).map (·.size) = some 3 := by kernel_rfl
theorem sz118 : (Tryz.prog.info? 118).map (·.size) = some 3 := by kernel_rfl
theorem sz22 : (Tryz.prog.info? 22).map (·.size) = some 1 := by kernel_rfl
theorem sz27 : (Tryz.prog.info? 27).map (·.size) = some 1 := by kernel_rfl
theorem sz29 : (Tryz.prog.info? 29).map (·.size) = some 4 := by kernel_rfl
theorem sz3 : (Tryz.prog.info? 3).map (·.size) = some 1 := by kernel_rfl
theorem sz33 : (Tryz.prog.info? 33).map (·.size) = some 1 := by kernel_rfl
theorem sz35 : (Tryz.prog.info? 35).map (·.size) = some 18 := by kernel_rfl
theorem sz4 : (Tryz.prog.info? 4).map (·.size) = some 1 := by kernel_rfl
theorem sz41 : (Tryz.prog.info? 41).map (·.size) = some 1 := by kernel_rfl
theorem sz44 : (Tryz.prog.info? 44).map (·.size) = some 3 := by kernel_rfl
theorem sz5 : (Tryz.prog.info? 5).map (·.size) = some 1 := by kernel_rfl
theorem sz84 : (Tryz.prog.info? 84).map (·.size) = some 9 := by kernel_rfl
theorem sz86 : (Tryz.prog.info? 86).map (·.size) = some 4 := by kernel_rfl
theorem sz9 : (Tryz.prog.info? 9).map (·.size) = some 1 := by kernel_rfl
theorem sz90 : (Tryz.prog.info? 90).map (·.size) = some 1 := by kernel_rfl
theorem sz96 : (Tryz.prog.info? 96).map (·.size) = some 4 := by kernel_rfl
theorem ty0 (v : Value) (w : World) : (Extern.ReflectliteType.typeOf #[.iface 0 v]).run Tryz.prog w = .ok (.iface 133 (.agg #[(.pointer (some ⟨1, 0, none⟩))])) w := by kernel_rfl
theorem ty104 (v : Value) (w : World) : (Extern.ReflectliteType.typeOf #[.iface 104 v]).run Tryz.prog w = .ok (.iface 133 (.agg #[(.pointer (some ⟨1, 104, none⟩))])) w := by kernel_rfl
theorem ty27 (v : Value) (w : World) : (Extern.ReflectliteType.typeOf #[.iface 27 v]).run Tryz.prog w = .ok (.iface 133 (.agg #[(.pointer (some ⟨1, 27, none⟩))])) w := by kernel_rfl
theorem tyNil (w : World) : (Extern.ReflectliteType.typeOf #[.nilIface]).run Tryz.prog w = .ok .nilIface w := by kernel_rfl
theorem us3 : (Tryz.prog.underlying 3).isSome = true := by kernel_rfl
theorem us5 : (Tryz.prog.underlying 5).isSome = true := by kernel_rfl
theorem us90 : (Tryz.prog.underlying 90).isSome = true := by kernel_rfl
theorem vo104 (o : ByteArray) (n : Int) (e : Value) (w : World) : (Extern.ReflectliteValue.unpack (.iface 104 (.agg #[.string o, .int .i64 n, e]))).run Tryz.prog w = .ok (.agg #[(.pointer (some ⟨1, 104, none⟩)), .pointer (some ⟨w.heap.size, 0, none⟩), .int .u64 153]) (w.alloc (.cells #[.string o, .int .i64 n, e] 104)) := by kernel_rfl
theorem vo105 (p : Addr) (w : World) : (Extern.ReflectliteValue.unpack (.iface 105 (.pointer (some p)))).run Tryz.prog w = .ok (.agg #[(.pointer (some ⟨1, 105, none⟩)), .pointer (some ⟨w.heap.size, 0, none⟩), .int .u64 150]) (w.alloc (.cells #[.pointer (some p)] 105)) := by kernel_rfl
theorem vo27 (n : Int) (w : World) : (Extern.ReflectliteValue.unpack (.iface 27 (.int .i64 n))).run Tryz.prog w = .ok (.agg #[(.pointer (some ⟨1, 27, none⟩)), .pointer (some ⟨w.heap.size, 0, none⟩), .int .u64 130]) (w.alloc (.cells #[.int .i64 n] 27)) := by kernel_rfl
theorem vo94 (p : Addr) (w : World) : (Extern.ReflectliteValue.unpack (.iface 94 (.pointer (some p)))).run Tryz.prog w = .ok (.agg #[(.pointer (some ⟨1, 94, none⟩)), .pointer (some ⟨w.heap.size, 0, none⟩), .int .u64 150]) (w.alloc (.cells #[.pointer (some p)] 94)) := by kernel_rfl
theorem vt105_150 (a : Addr) (w : World) : ((Extern.ReflectliteValue.methodAny (Extern.ReflectliteValue.valueError "reflectlite.Value.Type" 0) (fun t _ _ _ => Extern.ReflectliteType.toType t)) #[.agg #[(.pointer (some ⟨1, 105, none⟩)), .pointer (some a), .int .u64 150]]).run Tryz.prog w = .ok (.iface 133 (.agg #[(.pointer (some ⟨1, 105, none⟩))])) w := by kernel_rfl
theorem vt94_150 (a : Addr) (w : World) : ((Extern.ReflectliteValue.methodAny (Extern.ReflectliteValue.valueError "reflectlite.Value.Type" 0) (fun t _ _ _ => Extern.ReflectliteType.toType t)) #[.agg #[(.pointer (some ⟨1, 94, none⟩)), .pointer (some a), .int .u64 150]]).run Tryz.prog w = .ok (.iface 133 (.agg #[(.pointer (some ⟨1, 94, none⟩))])) w := by kernel_rfl
theorem xt105 : ExtOk Tryz.prog 105 (Extern.ReflectliteType.abiMethod fun t => do pure (.int .u8 (← Extern.Rtype.kind t))) := fun args w => run_callFunc_extern (e := (Extern.ReflectliteType.abiMethod fun t => do pure (.int .u8 (← Extern.Rtype.kind t)))) Tryz.func105 (by kernel_rfl) (by kernel_rfl) (by kernel_rfl) (by kernel_rfl) args w
theorem xt115 : ExtOk Tryz.prog 115 (Extern.ReflectliteType.relation "AssignableTo" Extern.ReflectliteType.assignableTo) := fun args w => run_callFunc_extern (e := (Extern.ReflectliteType.relation "AssignableTo" Extern.ReflectliteType.assignableTo)) Tryz.func115 (by kernel_rfl) (by kernel_rfl) (by kernel_rfl) (by kernel_rfl) args w
theorem xt116 : ExtOk Tryz.prog 116 (Extern.ReflectliteType.method fun t => do Extern.Rtype.noPackHeld "Comparable" t; pure (.bool (← typeInfo t).comparable)) := fun args w => run_callFunc_extern (e := (Extern.ReflectliteType.method fun t => do Extern.Rtype.noPackHeld "Comparable" t; pure (.bool (← typeInfo t).comparable))) Tryz.func116 (by kernel_rfl) (by kernel_rfl) (by kernel_rfl) (by kernel_rfl) args w
theorem xt117 : ExtOk Tryz.prog 117 (Extern.ReflectliteType.method Extern.ReflectliteType.elem) := fun args w => run_callFunc_extern (e := (Extern.ReflectliteType.method Extern.ReflectliteType.elem)) Tryz.func117 (by kernel_rfl) (by kernel_rfl) (by kernel_rfl) (by kernel_rfl) args w
theorem xt118 : ExtOk Tryz.prog 118 (Extern.ReflectliteType.relation "Implements" Extern.ReflectliteType.implements_) := fun args w => run_callFunc_extern (e := (Extern.ReflectliteType.relation "Implements" Extern.ReflectliteType.implements_)) Tryz.func118 (by kernel_rfl) (by kernel_rfl) (by kernel_rfl) (by kernel_rfl) args w
theorem xt73 : ExtOk Tryz.prog 73 Extern.ReflectliteType.typeOf := fun args w => run_callFunc_extern (e := Extern.ReflectliteType.typeOf) Tryz.func73 (by kernel_rfl) (by kernel_rfl) (by kernel_rfl) (by kernel_rfl) args w
theorem xt77 : ExtOk Tryz.prog 77 (fun args => Extern.ReflectliteValue.unpack (args.getD 0 (.tuple #[]))) := fun args w => run_callFunc_extern (e := (fun args => Extern.ReflectliteValue.unpack (args.getD 0 (.tuple #[])))) Tryz.func77 (by kernel_rfl) (by kernel_rfl) (by kernel_rfl) (by kernel_rfl) args w
theorem xt78 : ExtOk Tryz.prog 78 (Extern.ReflectliteValue.methodAny (Extern.ReflectliteValue.valueError "reflectlite.Value.Type" 0) (fun t _ _ _ => Extern.ReflectliteType.toType t)) := fun args w => run_callFunc_extern (e := (Extern.ReflectliteValue.methodAny (Extern.ReflectliteValue.valueError "reflectlite.Value.Type" 0) (fun t _ _ _ => Extern.ReflectliteType.toType t))) Tryz.func78 (by kernel_rfl) (by kernel_rfl) (by kernel_rfl) (by kernel_rfl) args w
theorem xt79 : ExtOk Tryz.prog 79 (Extern.ReflectliteValue.method (Extern.ReflectliteValue.valueError "reflectlite.Value.IsNil" 0) Extern.ReflectliteValue.isNil) := fun args w => run_callFunc_extern (e := (Extern.ReflectliteValue.method (Extern.ReflectliteValue.valueError "reflectlite.Value.IsNil" 0) Extern.ReflectliteValue.isNil)) Tryz.func79 (by kernel_rfl) (by kernel_rfl) (by kernel_rfl) (by kernel_rfl) args w
theorem xt88 : ExtOk Tryz.prog 88 (Extern.ReflectliteValue.method (Extern.ReflectliteValue.valueError "reflectlite.Value.Elem" 0) Extern.ReflectliteValue.elem) := fun args w => run_callFunc_extern (e := (Extern.ReflectliteValue.method (Extern.ReflectliteValue.valueError "reflectlite.Value.Elem" 0) Extern.ReflectliteValue.elem)) Tryz.func88 (by kernel_rfl) (by kernel_rfl) (by kernel_rfl) (by kernel_rfl) args w
theorem xt89 : ExtOk Tryz.prog 89 Extern.ReflectliteValue.set := fun args w => run_callFunc_extern (e := Extern.ReflectliteValue.set) Tryz.func89 (by kernel_rfl) (by kernel_rfl) (by kernel_rfl) (by kernel_rfl) args w
theorem ze100 : (Tryz.prog.info? 100).map (·.zero) = some (some (.agg #[(.int .i64 (0 : Int)), (.int .i64 (0 : Int)), (.int .i64 (0 : Int))])) := by kernel_rfl
theorem ze104 : (Tryz.prog.info? 104).map (·.zero) = some (some (.agg #[(.string (⟨#[]⟩ : ByteArray)), (.int .i64 (0 : Int)), (.nilIface)])) := by kernel_rfl
theorem ze118 : (Tryz.prog.info? 118).map (·.zero) = some (some (.agg #[(.pointer none), (.pointer none), (.int .u64 (0 : Int))])) := by kernel_rfl
theorem ze22 : (Tryz.prog.info? 22).map (·.zero) = some (some (.slice none 0 0)) := by kernel_rfl
theorem ze27 : (Tryz.prog.info? 27).map (·.zero) = some (some (.int .i64 (0 : Int))) := by kernel_rfl
theorem ze29 : (Tryz.prog.info? 29).map (·.zero) = some (some (.agg #[(.int .i64 (0 : Int)), (.int .i64 (0 : Int)), (.string (⟨#[]⟩ : ByteArray)), (.int .i64 (0 : Int))])) := by kernel_rfl
theorem ze3 : (Tryz.prog.info? 3).map (·.zero) = some (some (.int .i64 (0 : Int))) := by kernel_rfl
theorem ze31 : (Tryz.prog.info? 31).map (·.zero) = some (some (.agg #[(.slice none 0 0), (.int .i64 (0 : Int)), (.int .i64 (0 : Int)), (.string (⟨#[]⟩ : ByteArray)), (.int .i64 (0 : Int))])) := by kernel_rfl
theorem ze35 : (Tryz.prog.info? 35).map (·.zero) = some (some (.agg #[(.int .i64 (0 : Int)), (.int .i64 (0 : Int)), (.int .i64 (0 : Int)), (.int .i64 (0 : Int)), (.int .i64 (0 : Int)), (.int .i64 (0 : Int)), (.int .i64 (0 : Int)), (.int .i64 (0 : Int)), (.int .i64 (0 : Int)), (.bool false), (.string (⟨#[]⟩ : ByteArray)), (.string (⟨#[]⟩ : ByteArray)), (.string (⟨#[]⟩ : ByteArray)), (.string (⟨#[]⟩ : ByteArray)), (.slice none 0 0), (.slice none 0 0), (.slice none 0 0), (.slice none 0 0)])) := by kernel_rfl
theorem ze44 : (Tryz.prog.info? 44).map (·.zero) = some (some (.agg #[(.string (⟨#[]⟩ : ByteArray)), (.int .i64 (0 : Int)), (.int .i64 (0 : Int))])) := by kernel_rfl
theorem ze53 : (Tryz.prog.info? 53).map (·.zero) = some (some (.agg #[(.slice none 0 0), (.int .i64 (0 : Int)), (.nilIface)])) := by kernel_rfl
theorem ze84 : (Tryz.prog.info? 84).map (·.zero) = some (some (.agg #[(.int .i64 (0 : Int)), (.int .i64 (0 : Int)), (.int .i64 (0 : Int)), (.int .i64 (0 : Int)), (.int .i64 (0 : Int)), (.int .i64 (0 : Int)), (.int .i64 (0 : Int)), (.int .i64 (0 : Int)), (.int .i64 (0 : Int))])) := by kernel_rfl
theorem ze86 : (Tryz.prog.info? 86).map (·.zero) = some (some (.agg #[(.string (⟨#[]⟩ : ByteArray)), (.string (⟨#[]⟩ : ByteArray)), (.string (⟨#[]⟩ : ByteArray)), (.string (⟨#[]⟩ : ByteArray))])) := by kernel_rfl
theorem ze90 : (Tryz.prog.info? 90).map (·.zero) = some (some (.int .u64 (0 : Int))) := by kernel_rfl
theorem ze96 : (Tryz.prog.info? 96).map (·.zero) = some (some (.agg #[(.int .u64 (0 : Int)), (.bool false), (.slice none 0 0), (.slice none 0 0)])) := by kernel_rfl
theorem zo135 : (Tryz.prog.info? 135).map (·.zero) = some (some .nilIface) := by kernel_rfl
theorem zo138 : (Tryz.prog.info? 138).map (·.zero) = some (some .nilIface) := by kernel_rfl
theorem zo139 : (Tryz.prog.info? 139).map (·.zero) = some (some .nilIface) := by kernel_rfl
theorem mixed : Tryz.prog.follows .mixedOrders = true := by kernel_rfl

end Go.Proofs.YtafkdjljkolehaaGreatDoor.G
