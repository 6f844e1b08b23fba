/- Closed facts on the program's types. Printed by a program of the session (gen). -/
import Derived.Test.YtjgnbbakamellaaDoorAT
import Derived.Test.YtjgnbbakamellaaDoorProg
set_option linter.unusedVariables false
set_option linter.unusedSimpArgs false
namespace Go.Proofs.YtjgnbbakamellaaDoor.G
open Go Go.KK

def Env (M : IM) : Prop := M.cell ⟨0, 0, none⟩ = some (.iface 178 (.agg #[(.pointer (some ⟨1, 28, none⟩))]))
theorem Env.mono {M M' : IM} (h : Env M) (hle : M.le M') : Env M' := hle.cell h
theorem ag125 : aggB Tryd.prog 125 = true := by kernel_rfl
theorem ag127 : aggB Tryd.prog 127 = true := by kernel_rfl
theorem ag148 : aggB Tryd.prog 148 = true := by kernel_rfl
theorem ag40 : aggB Tryd.prog 40 = true := by kernel_rfl
theorem ag66 : aggB Tryd.prog 66 = true := by kernel_rfl
theorem ag68 : aggB Tryd.prog 68 = true := by kernel_rfl
theorem ag70 : aggB Tryd.prog 70 = true := by kernel_rfl
theorem ag72 : aggB Tryd.prog 72 = true := by kernel_rfl
theorem ag77 : aggB Tryd.prog 77 = true := by kernel_rfl
theorem ag99 : aggB Tryd.prog 99 = true := by kernel_rfl
theorem cc101 : Tryd.prog.concrete 101 = true := by kernel_rfl
theorem cc102 : Tryd.prog.concrete 102 = true := by kernel_rfl
theorem cc47 : Tryd.prog.concrete 47 = true := by kernel_rfl
theorem cc99 : Tryd.prog.concrete 99 = true := by kernel_rfl
theorem cm47 : (Tryd.prog.info? 47).map (·.comparable) = some true := by kernel_rfl
theorem co100 : callOk Tryd.prog 100 = true := by kernel_rfl
theorem co101 : callOk Tryd.prog 101 = true := by kernel_rfl
theorem co102 : callOk Tryd.prog 102 = true := by kernel_rfl
theorem co103 : callOk Tryd.prog 103 = true := by kernel_rfl
theorem co105 : callOk Tryd.prog 105 = true := by kernel_rfl
theorem co107 : callOk Tryd.prog 107 = true := by kernel_rfl
theorem co111 : callOk Tryd.prog 111 = true := by kernel_rfl
theorem co112 : callOk Tryd.prog 112 = true := by kernel_rfl
theorem co113 : callOk Tryd.prog 113 = true := by kernel_rfl
theorem co114 : callOk Tryd.prog 114 = true := by kernel_rfl
theorem co116 : callOk Tryd.prog 116 = true := by kernel_rfl
theorem co136 : callOk Tryd.prog 136 = true := by kernel_rfl
theorem co19 : callOk Tryd.prog 19 = true := by kernel_rfl
theorem co21 : callOk Tryd.prog 21 = true := by kernel_rfl
theorem co22 : callOk Tryd.prog 22 = true := by kernel_rfl
theorem co26 : callOk Tryd.prog 26 = true := by kernel_rfl
theorem co27 : callOk Tryd.prog 27 = true := by kernel_rfl
theorem co28 : callOk Tryd.prog 28 = true := by kernel_rfl
theorem co29 : callOk Tryd.prog 29 = true := by kernel_rfl
theorem co30 : callOk Tryd.prog 30 = true := by kernel_rfl
theorem co31 : callOk Tryd.prog 31 = true := by kernel_rfl
theorem co32 : callOk Tryd.prog 32 = true := by kernel_rfl
theorem co33 : callOk Tryd.prog 33 = true := by kernel_rfl
theorem co34 : callOk Tryd.prog 34 = true := by kernel_rfl
theorem co35 : callOk Tryd.prog 35 = true := by kernel_rfl
theorem co36 : callOk Tryd.prog 36 = true := by kernel_rfl
theorem co37 : callOk Tryd.prog 37 = true := by kernel_rfl
theorem co38 : callOk Tryd.prog 38 = true := by kernel_rfl
theorem co39 : callOk Tryd.prog 39 = true := by kernel_rfl
theorem co40 : callOk Tryd.prog 40 = true := by kernel_rfl
theorem co42 : callOk Tryd.prog 42 = true := by kernel_rfl
theorem co44 : callOk Tryd.prog 44 = true := by kernel_rfl
theorem co47 : callOk Tryd.prog 47 = true := by kernel_rfl
theorem co49 : callOk Tryd.prog 49 = true := by kernel_rfl
theorem co51 : callOk Tryd.prog 51 = true := by kernel_rfl
theorem co52 : callOk Tryd.prog 52 = true := by kernel_rfl
theorem co53 : callOk Tryd.prog 53 = true := by kernel_rfl
theorem co54 : callOk Tryd.prog 54 = true := by kernel_rfl
theorem co55 : callOk Tryd.prog 55 = true := by kernel_rfl
theorem co56 : callOk Tryd.prog 56 = true := by kernel_rfl
theorem co57 : callOk Tryd.prog 57 = true := by kernel_rfl
theorem co58 : callOk Tryd.prog 58 = true := by kernel_rfl
theorem co59 : callOk Tryd.prog 59 = true := by kernel_rfl
theorem co60 : callOk Tryd.prog 60 = true := by kernel_rfl
theorem co61 : callOk Tryd.prog 61 = true := by kernel_rfl
theorem co62 : callOk Tryd.prog 62 = true := by kernel_rfl
theorem co63 : callOk Tryd.prog 63 = true := by kernel_rfl
theorem co64 : callOk Tryd.prog 64 = true := by kernel_rfl
theorem co65 : callOk Tryd.prog 65 = true := by kernel_rfl
theorem co66 : callOk Tryd.prog 66 = true := by kernel_rfl
theorem co67 : callOk Tryd.prog 67 = true := by kernel_rfl
theorem co68 : callOk Tryd.prog 68 = true := by kernel_rfl
theorem co69 : callOk Tryd.prog 69 = true := by kernel_rfl
theorem co70 : callOk Tryd.prog 70 = true := by kernel_rfl
theorem co71 : callOk Tryd.prog 71 = true := by kernel_rfl
theorem co72 : callOk Tryd.prog 72 = true := by kernel_rfl
theorem co73 : callOk Tryd.prog 73 = true := by kernel_rfl
theorem co74 : callOk Tryd.prog 74 = true := by kernel_rfl
theorem co75 : callOk Tryd.prog 75 = true := by kernel_rfl
theorem co76 : callOk Tryd.prog 76 = true := by kernel_rfl
theorem co77 : callOk Tryd.prog 77 = true := by kernel_rfl
theorem co78 : callOk Tryd.prog 78 = true := by kernel_rfl
theorem co79 : callOk Tryd.prog 79 = true := by kernel_rfl
theorem co81 : callOk Tryd.prog 81 = true := by kernel_rfl
theorem co82 : callOk Tryd.prog 82 = true := by kernel_rfl
theorem co83 : callOk Tryd.prog 83 = true := by kernel_rfl
theorem co89 : callOk Tryd.prog 89 = true := by kernel_rfl
theorem co95 : callOk Tryd.prog 95 = true := by kernel_rfl
theorem co96 : callOk Tryd.prog 96 = true := by kernel_rfl
theorem co97 : callOk Tryd.prog 97 = true := by kernel_rfl
theorem co98 : callOk Tryd.prog 98 = true := by kernel_rfl
theorem co99 : callOk Tryd.prog 99 = true := by kernel_rfl
theorem da47 (w : World) : (Extern.Rtype.directlyAssignable 47 47).run Tryd.prog w = .ok true w := by kernel_rfl
theorem da99 (w : World) : (Extern.Rtype.directlyAssignable 99 99).run Tryd.prog w = .ok true w := by kernel_rfl
theorem eg125 : Tryd.prog.eqGuardType Tryd.prog.depth 125 = false := by kernel_rfl
theorem eg127 : Tryd.prog.eqGuardType Tryd.prog.depth 127 = false := by kernel_rfl
theorem eg66 : Tryd.prog.eqGuardType Tryd.prog.depth 66 = false := by kernel_rfl
theorem eg72 : Tryd.prog.eqGuardType Tryd.prog.depth 72 = false := by kernel_rfl
theorem el101 (w : World) : (Extern.Rtype.elem? 101).run Tryd.prog w = .ok (some 99) w := by kernel_rfl
theorem el102 (w : World) : (Extern.Rtype.elem? 102).run Tryd.prog w = .ok (some 47) w := by kernel_rfl
theorem eq66 : eqStruct Tryd.prog 66 = true := by kernel_rfl
theorem eq70 : eqStruct Tryd.prog 70 = true := by kernel_rfl
theorem eq72 : eqStruct Tryd.prog 72 = true := by kernel_rfl
theorem fo174_0 : fldOff Tryd.prog 174 0 = some 0 := by kernel_rfl
theorem fo174_1 : fldOff Tryd.prog 174 1 = some 1 := by kernel_rfl
theorem fo174_2 : fldOff Tryd.prog 174 2 = some 2 := by kernel_rfl
theorem fo40_0 : fldOff Tryd.prog 40 0 = some 0 := by kernel_rfl
theorem fo40_1 : fldOff Tryd.prog 40 1 = some 1 := by kernel_rfl
theorem fo66_0 : fldOff Tryd.prog 66 0 = some 0 := by kernel_rfl
theorem fo66_1 : fldOff Tryd.prog 66 1 = some 1 := by kernel_rfl
theorem fo66_2 : fldOff Tryd.prog 66 2 = some 2 := by kernel_rfl
theorem fo66_3 : fldOff Tryd.prog 66 3 = some 3 := by kernel_rfl
theorem fo66_4 : fldOff Tryd.prog 66 4 = some 4 := by kernel_rfl
theorem fo68_0 : fldOff Tryd.prog 68 0 = some 0 := by kernel_rfl
theorem fo68_1 : fldOff Tryd.prog 68 1 = some 1 := by kernel_rfl
theorem fo68_10 : fldOff Tryd.prog 68 10 = some 10 := by kernel_rfl
theorem fo68_11 : fldOff Tryd.prog 68 11 = some 11 := by kernel_rfl
theorem fo68_12 : fldOff Tryd.prog 68 12 = some 12 := by kernel_rfl
theorem fo68_13 : fldOff Tryd.prog 68 13 = some 13 := by kernel_rfl
theorem fo68_14 : fldOff Tryd.prog 68 14 = some 14 := by kernel_rfl
theorem fo68_2 : fldOff Tryd.prog 68 2 = some 2 := by kernel_rfl
theorem fo68_3 : fldOff Tryd.prog 68 3 = some 3 := by kernel_rfl
theorem fo68_4 : fldOff Tryd.prog 68 4 = some 4 := by kernel_rfl
theorem fo68_5 : fldOff Tryd.prog 68 5 = some 5 := by kernel_rfl
theorem fo68_6 : fldOff Tryd.prog 68 6 = some 6 := by kernel_rfl
theorem fo68_7 : fldOff Tryd.prog 68 7 = some 7 := by kernel_rfl
theorem fo68_8 : fldOff Tryd.prog 68 8 = some 8 := by kernel_rfl
theorem fo68_9 : fldOff Tryd.prog 68 9 = some 9 := by kernel_rfl
theorem fo70_0 : fldOff Tryd.prog 70 0 = some 0 := by kernel_rfl
theorem fo70_1 : fldOff Tryd.prog 70 1 = some 1 := by kernel_rfl
theorem fo70_2 : fldOff Tryd.prog 70 2 = some 2 := by kernel_rfl
theorem fo72_0 : fldOff Tryd.prog 72 0 = some 0 := by kernel_rfl
theorem fo72_1 : fldOff Tryd.prog 72 1 = some 1 := by kernel_rfl
theorem fo72_2 : fldOff Tryd.prog 72 2 = some 2 := by kernel_rfl
theorem fo72_3 : fldOff Tryd.prog 72 3 = some 3 := by kernel_rfl
theorem fo72_4 : fldOff Tryd.prog 72 4 = some 4 := by kernel_rfl
theorem fo77_0 : fldOff Tryd.prog 77 0 = some 0 := by kernel_rfl
theorem fo77_1 : fldOff Tryd.prog 77 1 = some 1 := by kernel_rfl
theorem fo77_2 : fldOff Tryd.prog 77 2 = some 2 := by kernel_rfl
theorem fo99_0 : fldOff Tryd.prog 99 0 = some 0 := by kernel_rfl
theorem fo99_1 : fldOff Tryd.prog 99 1 = some 1 := by kernel_rfl
theorem fo99_2 : fldOff Tryd.prog 99 2 = some 2 := by kernel_rfl
theorem fp174 : fldPlace Tryd.prog 174 = some [(0, 1), (1, 1), (2, 1)] := by kernel_rfl
theorem fp40 : fldPlace Tryd.prog 40 = some [(0, 1), (1, 1)] := by kernel_rfl
theorem fp66 : fldPlace Tryd.prog 66 = some [(0, 1), (1, 1), (2, 1), (3, 1), (4, 1)] := by kernel_rfl
theorem fp68 : fldPlace Tryd.prog 68 = some [(0, 1), (1, 1), (2, 1), (3, 1), (4, 1), (5, 1), (6, 1), (7, 1), (8, 1), (9, 1), (10, 1), (11, 1), (12, 1), (13, 1), (14, 5)] := by kernel_rfl
theorem fp70 : fldPlace Tryd.prog 70 = some [(0, 1), (1, 1), (2, 1)] := by kernel_rfl
theorem fp72 : fldPlace Tryd.prog 72 = some [(0, 1), (1, 1), (2, 1), (3, 1), (4, 3)] := by kernel_rfl
theorem fp77 : fldPlace Tryd.prog 77 = some [(0, 1), (1, 1), (2, 1)] := by kernel_rfl
theorem fp99 : fldPlace Tryd.prog 99 = some [(0, 1), (1, 1), (2, 1)] := by kernel_rfl
theorem ha99_185 (v : Value) (xT : TypeId) (w : World) : (Instr.typeAssert (.iface 99 v) xT 185 true).run Tryd.prog w = .ok (.tuple #[.iface 99 v, .bool true]) w := run_typeAssert_hasB Tryd.underlying185 (by kernel_rfl) v xT w
theorem in3 : (Tryd.prog.info? 3).map (fun i => (i.size, i.bytes, i.zero)) = some (1, 8, some (.int .i64 (0 : Int))) := by kernel_rfl
theorem in5 : (Tryd.prog.info? 5).map (fun i => (i.size, i.bytes, i.zero)) = some (1, 1, some (.int .u8 (0 : Int))) := by kernel_rfl
theorem in9 : (Tryd.prog.info? 9).map (fun i => (i.size, i.bytes, i.zero)) = some (1, 16, some (.string (⟨#[]⟩ : ByteArray))) := by kernel_rfl
theorem iz3 : (Tryd.prog.info? 3).map (fun i => (i.size, i.zero)) = some (1, some (.int .i64 (0 : Int))) := by kernel_rfl
theorem iz5 : (Tryd.prog.info? 5).map (fun i => (i.size, i.zero)) = some (1, some (.int .u8 (0 : Int))) := by kernel_rfl
theorem iz9 : (Tryd.prog.info? 9).map (fun i => (i.size, i.zero)) = some (1, some (.string (⟨#[]⟩ : ByteArray))) := by kernel_rfl
theorem la0_182 (v : Value) (xT : TypeId) (w : World) : (Instr.typeAssert (.iface 0 v) xT 182 true).run Tryd.prog w = .ok (.tuple #[.nilIface, .bool false]) w := run_typeAssert_lacksB Tryd.underlying182 (by kernel_rfl) (by kernel_rfl) v xT w
theorem la0_185 (v : Value) (xT : TypeId) (w : World) : (Instr.typeAssert (.iface 0 v) xT 185 true).run Tryd.prog w = .ok (.tuple #[.nilIface, .bool false]) w := run_typeAssert_lacksB Tryd.underlying185 (by kernel_rfl) (by kernel_rfl) v xT w
theorem la0_186 (v : Value) (xT : TypeId) (w : World) : (Instr.typeAssert (.iface 0 v) xT 186 true).run Tryd.prog w = .ok (.tuple #[.nilIface, .bool false]) w := run_typeAssert_lacksB Tryd.underlying186 (by kernel_rfl) (by kernel_rfl) v xT w
theorem la0_192 (v : Value) (xT : TypeId) (w : World) : (Instr.typeAssert (.iface 0 v) xT 192 true).run Tryd.prog w = .ok (.tuple #[.nilIface, .bool false]) w := run_typeAssert_lacksB Tryd.underlying192 (by kernel_rfl) (by kernel_rfl) v xT w
theorem la47_182 (v : Value) (xT : TypeId) (w : World) : (Instr.typeAssert (.iface 47 v) xT 182 true).run Tryd.prog w = .ok (.tuple #[.nilIface, .bool false]) w := run_typeAssert_lacksB Tryd.underlying182 (by kernel_rfl) (by kernel_rfl) v xT w
theorem la47_185 (v : Value) (xT : TypeId) (w : World) : (Instr.typeAssert (.iface 47 v) xT 185 true).run Tryd.prog w = .ok (.tuple #[.nilIface, .bool false]) w := run_typeAssert_lacksB Tryd.underlying185 (by kernel_rfl) (by kernel_rfl) v xT w
theorem la47_186 (v : Value) (xT : TypeId) (w : World) : (Instr.typeAssert (.iface 47 v) xT 186 true).run Tryd.prog w = .ok (.tuple #[.nilIface, .bool false]) w := run_typeAssert_lacksB Tryd.underlying186 (by kernel_rfl) (by kernel_rfl) v xT w
theorem la47_192 (v : Value) (xT : TypeId) (w : World) : (Instr.typeAssert (.iface 47 v) xT 192 true).run Tryd.prog w = .ok (.tuple #[.nilIface, .bool false]) w := run_typeAssert_lacksB Tryd.underlying192 (by kernel_rfl) (by kernel_rfl) v xT w
theorem la99_182 (v : Value) (xT : TypeId) (w : World) : (Instr.typeAssert (.iface 99 v) xT 182 true).run Tryd.prog w = .ok (.tuple #[.nilIface, .bool false]) w := run_typeAssert_lacksB Tryd.underlying182 (by kernel_rfl) (by kernel_rfl) v xT w
theorem la99_192 (v : Value) (xT : TypeId) (w : World) : (Instr.typeAssert (.iface 99 v) xT 192 true).run Tryd.prog w = .ok (.tuple #[.nilIface, .bool false]) w := run_typeAssert_lacksB Tryd.underlying192 (by kernel_rfl) (by kernel_rfl) v xT w
theorem me99_Unwrap (v : Value) (w : World) : (method (mdepth Tryd.prog) 99 v "Unwrap").run Tryd.prog w = .ok (136, v) w := by kernel_rfl
theorem mk47 (p : Addr) (w : World) : (Extern.ReflectliteValue.mk 47 p Extern.ReflectliteValue.flagAddr).run Tryd.prog w = .ok (.agg #[(.pointer (some ⟨1, 47, none⟩)), .pointer (some p), .int .u64 386]) w := by kernel_rfl
theorem mk99 (p : Addr) (w : World) : (Extern.ReflectliteValue.mk 99 p Extern.ReflectliteValue.flagAddr).run Tryd.prog w = .ok (.agg #[(.pointer (some ⟨1, 99, none⟩)), .pointer (some p), .int .u64 409]) w := by kernel_rfl
theorem mm_AssignableTo (h : Value) (w : World) : (method (mdepth Tryd.prog) 178 (.agg #[h]) "AssignableTo").run Tryd.prog w = .ok (141, .agg #[h]) w := by kernel_rfl
theorem mm_Comparable (h : Value) (w : World) : (method (mdepth Tryd.prog) 178 (.agg #[h]) "Comparable").run Tryd.prog w = .ok (142, .agg #[h]) w := by kernel_rfl
theorem mm_Elem (h : Value) (w : World) : (method (mdepth Tryd.prog) 178 (.agg #[h]) "Elem").run Tryd.prog w = .ok (143, .agg #[h]) w := by kernel_rfl
theorem mm_Implements (h : Value) (w : World) : (method (mdepth Tryd.prog) 178 (.agg #[h]) "Implements").run Tryd.prog w = .ok (144, .agg #[h]) w := by kernel_rfl
theorem mm_Kind (h : Value) (w : World) : (method (mdepth Tryd.prog) 178 (.agg #[h]) "Kind").run Tryd.prog w = .ok (131, h) w := by kernel_rfl
theorem mr_AssignableTo_0_47 (w : World) : ((Extern.ReflectliteType.relation "AssignableTo" Extern.ReflectliteType.assignableTo) #[.agg #[(.pointer (some ⟨1, 0, none⟩))], (.iface 178 (.agg #[.pointer (some ⟨1, 47, none⟩)]))]).run Tryd.prog w = .ok (.bool false) w := by kernel_rfl
theorem mr_AssignableTo_0_99 (w : World) : ((Extern.ReflectliteType.relation "AssignableTo" Extern.ReflectliteType.assignableTo) #[.agg #[(.pointer (some ⟨1, 0, none⟩))], (.iface 178 (.agg #[.pointer (some ⟨1, 99, none⟩)]))]).run Tryd.prog w = .ok (.bool false) w := by kernel_rfl
theorem mr_AssignableTo_47_47 (w : World) : ((Extern.ReflectliteType.relation "AssignableTo" Extern.ReflectliteType.assignableTo) #[.agg #[(.pointer (some ⟨1, 47, none⟩))], (.iface 178 (.agg #[.pointer (some ⟨1, 47, none⟩)]))]).run Tryd.prog w = .ok (.bool true) w := by kernel_rfl
theorem mr_AssignableTo_47_99 (w : World) : ((Extern.ReflectliteType.relation "AssignableTo" Extern.ReflectliteType.assignableTo) #[.agg #[(.pointer (some ⟨1, 47, none⟩))], (.iface 178 (.agg #[.pointer (some ⟨1, 99, none⟩)]))]).run Tryd.prog w = .ok (.bool false) w := by kernel_rfl
theorem mr_AssignableTo_99_47 (w : World) : ((Extern.ReflectliteType.relation "AssignableTo" Extern.ReflectliteType.assignableTo) #[.agg #[(.pointer (some ⟨1, 99, none⟩))], (.iface 178 (.agg #[.pointer (some ⟨1, 47, none⟩)]))]).run Tryd.prog w = .ok (.bool false) w := by kernel_rfl
theorem mr_AssignableTo_99_99 (w : World) : ((Extern.ReflectliteType.relation "AssignableTo" Extern.ReflectliteType.assignableTo) #[.agg #[(.pointer (some ⟨1, 99, none⟩))], (.iface 178 (.agg #[.pointer (some ⟨1, 99, none⟩)]))]).run Tryd.prog w = .ok (.bool true) w := by kernel_rfl
theorem mr_Comparable_47 (w : World) : ((Extern.ReflectliteType.method fun t => do Extern.Rtype.noPackHeld "Comparable" t; pure (.bool (← typeInfo t).comparable)) #[.agg #[(.pointer (some ⟨1, 47, none⟩))]]).run Tryd.prog w = .ok (.bool true) w := by kernel_rfl
theorem mr_Elem_101 (w : World) : ((Extern.ReflectliteType.method Extern.ReflectliteType.elem) #[.agg #[(.pointer (some ⟨1, 101, none⟩))]]).run Tryd.prog w = .ok (.iface 178 (.agg #[.pointer (some ⟨1, 99, none⟩)])) w := by kernel_rfl
theorem mr_Elem_102 (w : World) : ((Extern.ReflectliteType.method Extern.ReflectliteType.elem) #[.agg #[(.pointer (some ⟨1, 102, none⟩))]]).run Tryd.prog w = .ok (.iface 178 (.agg #[.pointer (some ⟨1, 47, none⟩)])) w := by kernel_rfl
theorem mr_Implements_47_28 (w : World) : ((Extern.ReflectliteType.relation "Implements" Extern.ReflectliteType.implements_) #[.agg #[(.pointer (some ⟨1, 47, none⟩))], (.iface 178 (.agg #[.pointer (some ⟨1, 28, none⟩)]))]).run Tryd.prog w = .ok (.bool true) w := by kernel_rfl
theorem mr_Implements_99_28 (w : World) : ((Extern.ReflectliteType.relation "Implements" Extern.ReflectliteType.implements_) #[.agg #[(.pointer (some ⟨1, 99, none⟩))], (.iface 178 (.agg #[.pointer (some ⟨1, 28, none⟩)]))]).run Tryd.prog w = .ok (.bool true) w := by kernel_rfl
theorem mr_Kind_101 (w : World) : ((Extern.ReflectliteType.abiMethod fun t => do pure (.int .u8 (← Extern.Rtype.kind t))) #[(.pointer (some ⟨1, 101, none⟩))]).run Tryd.prog w = .ok (.int .u8 (22 : Int)) w := by kernel_rfl
theorem mr_Kind_102 (w : World) : ((Extern.ReflectliteType.abiMethod fun t => do pure (.int .u8 (← Extern.Rtype.kind t))) #[(.pointer (some ⟨1, 102, none⟩))]).run Tryd.prog w = .ok (.int .u8 (22 : Int)) w := by kernel_rfl
theorem mr_Kind_47 (w : World) : ((Extern.ReflectliteType.abiMethod fun t => do pure (.int .u8 (← Extern.Rtype.kind t))) #[(.pointer (some ⟨1, 47, none⟩))]).run Tryd.prog w = .ok (.int .u8 (2 : Int)) w := by kernel_rfl
theorem mr_Kind_99 (w : World) : ((Extern.ReflectliteType.abiMethod fun t => do pure (.int .u8 (← Extern.Rtype.kind t))) #[(.pointer (some ⟨1, 99, none⟩))]).run Tryd.prog w = .ok (.int .u8 (25 : Int)) w := by kernel_rfl
theorem pl101 : plainT Tryd.prog 101 = true := by kernel_rfl
theorem pl102 : plainT Tryd.prog 102 = true := by kernel_rfl
theorem pl117 : plainT Tryd.prog 117 = true := by kernel_rfl
theorem pl151 : plainT Tryd.prog 151 = true := by kernel_rfl
theorem pl26 : plainT Tryd.prog 26 = true := by kernel_rfl
theorem pl28 : plainT Tryd.prog 28 = true := by kernel_rfl
theorem pl3 : plainT Tryd.prog 3 = true := by kernel_rfl
theorem pl4 : plainT Tryd.prog 4 = true := by kernel_rfl
theorem pl42 : plainT Tryd.prog 42 = true := by kernel_rfl
theorem pl47 : plainT Tryd.prog 47 = true := by kernel_rfl
theorem pl5 : plainT Tryd.prog 5 = true := by kernel_rfl
theorem pl64 : plainT Tryd.prog 64 = true := by kernel_rfl
theorem pl9 : plainT Tryd.prog 9 = true := by kernel_rfl
theorem pp101_150 (a : Addr) (w : World) : (Extern.ReflectliteValue.parts (.agg #[(.pointer (some ⟨1, 101, none⟩)), .pointer (some a), .int .u64 150])).run Tryd.prog w = .ok (some (101, a, 150)) w := by kernel_rfl
theorem pp102_150 (a : Addr) (w : World) : (Extern.ReflectliteValue.parts (.agg #[(.pointer (some ⟨1, 102, none⟩)), .pointer (some a), .int .u64 150])).run Tryd.prog w = .ok (some (102, a, 150)) w := by kernel_rfl
theorem pp47_130 (a : Addr) (w : World) : (Extern.ReflectliteValue.parts (.agg #[(.pointer (some ⟨1, 47, none⟩)), .pointer (some a), .int .u64 130])).run Tryd.prog w = .ok (some (47, a, 130)) w := by kernel_rfl
theorem pp47_386 (a : Addr) (w : World) : (Extern.ReflectliteValue.parts (.agg #[(.pointer (some ⟨1, 47, none⟩)), .pointer (some a), .int .u64 386])).run Tryd.prog w = .ok (some (47, a, 386)) w := by kernel_rfl
theorem pp99_153 (a : Addr) (w : World) : (Extern.ReflectliteValue.parts (.agg #[(.pointer (some ⟨1, 99, none⟩)), .pointer (some a), .int .u64 153])).run Tryd.prog w = .ok (some (99, a, 153)) w := by kernel_rfl
theorem pp99_409 (a : Addr) (w : World) : (Extern.ReflectliteValue.parts (.agg #[(.pointer (some ⟨1, 99, none⟩)), .pointer (some a), .int .u64 409])).run Tryd.prog w = .ok (some (99, a, 409)) w := by kernel_rfl
theorem sz117 : (Tryd.prog.info? 117).map (·.size) = some 1 := by kernel_rfl
theorem sz125 : (Tryd.prog.info? 125).map (·.size) = some 8 := by kernel_rfl
theorem sz127 : (Tryd.prog.info? 127).map (·.size) = some 4 := by kernel_rfl
theorem sz148 : (Tryd.prog.info? 148).map (·.size) = some 3 := by kernel_rfl
theorem sz26 : (Tryd.prog.info? 26).map (·.size) = some 1 := by kernel_rfl
theorem sz28 : (Tryd.prog.info? 28).map (·.size) = some 1 := by kernel_rfl
theorem sz3 : (Tryd.prog.info? 3).map (·.size) = some 1 := by kernel_rfl
theorem sz4 : (Tryd.prog.info? 4).map (·.size) = some 1 := by kernel_rfl
theorem sz40 : (Tryd.prog.info? 40).map (·.size) = some 2 := by kernel_rfl
theorem sz42 : (Tryd.prog.info? 42).map (·.size) = some 1 := by kernel_rfl
theorem sz47 : (Tryd.prog.info? 47).map (·.size) = some 1 := by kernel_rfl
theorem sz5 : (Tryd.prog.info? 5).map (·.size) = some 1 := by kernel_rfl
theorem sz64 : (Tryd.prog.info? 64).map (·.size) = some 1 := by kernel_rfl
theorem sz66 : (Tryd.prog.info? 66).map (·.size) = some 5 := by kernel_rfl
theorem sz68 : (Tryd.prog.info? 68).map (·.size) = some 19 := by kernel_rfl
theorem sz70 : (Tryd.prog.info? 70).map (·.size) = some 3 := by kernel_rfl
theorem sz72 : (Tryd.prog.info? 72).map (·.size) = some 7 := by kernel_rfl
theorem sz77 : (Tryd.prog.info? 77).map (·.size) = some 3 := by kernel_rfl
theorem sz9 : (Tryd.prog.info? 9).map (·.size) = some 1 := by kernel_rfl
theorem sz99 : (Tryd.prog.info? 99).map (·.size) = some 3 := by kernel_rfl
theorem ty0 (v : Value) (w : World) : (Extern.ReflectliteType.typeOf #[.iface 0 v]).run Tryd.prog w = .ok (.iface 178 (.agg #[(.pointer (some ⟨1, 0, none⟩))])) w := by kernel_rfl
theorem ty47 (v : Value) (w : World) : (Extern.ReflectliteType.typeOf #[.iface 47 v]).run Tryd.prog w = .ok (.iface 178 (.agg #[(.pointer (some ⟨1, 47, none⟩))])) w := by kernel_rfl
theorem ty99 (v : Value) (w : World) : (Extern.ReflectliteType.typeOf #[.iface 99 v]).run Tryd.prog w = .ok (.iface 178 (.agg #[(.pointer (some ⟨1, 99, none⟩))])) w := by kernel_rfl
theorem tyNil (w : World) : (Extern.ReflectliteType.typeOf #[.nilIface]).run Tryd.prog w = .ok .nilIface w := by kernel_rfl
theorem us3 : (Tryd.prog.underlying 3).isSome = true := by kernel_rfl
theorem us42 : (Tryd.prog.underlying 42).isSome = true := by kernel_rfl
theorem us5 : (Tryd.prog.underlying 5).isSome = true := by kernel_rfl
theorem vo101 (p : Addr) (w : World) : (Extern.ReflectliteValue.unpack (.iface 101 (.pointer (some p)))).run Tryd.prog w = .ok (.agg #[(.pointer (some ⟨1, 101, none⟩)), .pointer (some ⟨w.heap.size, 0, none⟩), .int .u64 150]) (w.alloc (.cells #[.pointer (some p)] 101)) := by kernel_rfl
theorem vo102 (p : Addr) (w : World) : (Extern.ReflectliteValue.unpack (.iface 102 (.pointer (some p)))).run Tryd.prog w = .ok (.agg #[(.pointer (some ⟨1, 102, none⟩)), .pointer (some ⟨w.heap.size, 0, none⟩), .int .u64 150]) (w.alloc (.cells #[.pointer (some p)] 102)) := by kernel_rfl
theorem vo47 (n : Int) (w : World) : (Extern.ReflectliteValue.unpack (.iface 47 (.int .i64 n))).run Tryd.prog w = .ok (.agg #[(.pointer (some ⟨1, 47, none⟩)), .pointer (some ⟨w.heap.size, 0, none⟩), .int .u64 130]) (w.alloc (.cells #[.int .i64 n] 47)) := by kernel_rfl
theorem vo99 (o : ByteArray) (n : Int) (e : Value) (w : World) : (Extern.ReflectliteValue.unpack (.iface 99 (.agg #[.string o, .int .i64 n, e]))).run Tryd.prog w = .ok (.agg #[(.pointer (some ⟨1, 99, none⟩)), .pointer (some ⟨w.heap.size, 0, none⟩), .int .u64 153]) (w.alloc (.cells #[.string o, .int .i64 n, e] 99)) := by kernel_rfl
theorem vt101_150 (a : Addr) (w : World) : ((Extern.ReflectliteValue.methodAny (Extern.ReflectliteValue.valueError "reflectlite.Value.Type" 0) (fun t _ _ _ => Extern.ReflectliteType.toType t)) #[.agg #[(.pointer (some ⟨1, 101, none⟩)), .pointer (some a), .int .u64 150]]).run Tryd.prog w = .ok (.iface 178 (.agg #[(.pointer (some ⟨1, 101, none⟩))])) w := by kernel_rfl
theorem vt102_150 (a : Addr) (w : World) : ((Extern.ReflectliteValue.methodAny (Extern.ReflectliteValue.valueError "reflectlite.Value.Type" 0) (fun t _ _ _ => Extern.ReflectliteType.toType t)) #[.agg #[(.pointer (some ⟨1, 102, none⟩)), .pointer (some a), .int .u64 150]]).run Tryd.prog w = .ok (.iface 178 (.agg #[(.pointer (some ⟨1, 102, none⟩))])) w := by kernel_rfl
theorem xt104 : ExtOk Tryd.prog 104 Extern.ReflectliteType.typeOf := fun args w => run_callFunc_extern (e := Extern.ReflectliteType.typeOf) Tryd.func104 (by kernel_rfl) (by kernel_rfl) (by kernel_rfl) (by kernel_rfl) args w
theorem xt109 : ExtOk Tryd.prog 109 (Extern.ReflectliteValue.method (Extern.ReflectliteValue.valueError "reflectlite.Value.Elem" 0) Extern.ReflectliteValue.elem) := fun args w => run_callFunc_extern (e := (Extern.ReflectliteValue.method (Extern.ReflectliteValue.valueError "reflectlite.Value.Elem" 0) Extern.ReflectliteValue.elem)) Tryd.func109 (by kernel_rfl) (by kernel_rfl) (by kernel_rfl) (by kernel_rfl) args w
theorem xt110 : ExtOk Tryd.prog 110 Extern.ReflectliteValue.set := fun args w => run_callFunc_extern (e := Extern.ReflectliteValue.set) Tryd.func110 (by kernel_rfl) (by kernel_rfl) (by kernel_rfl) (by kernel_rfl) args w
theorem xt131 : ExtOk Tryd.prog 131 (Extern.ReflectliteType.abiMethod fun t => do pure (.int .u8 (← Extern.Rtype.kind t))) := fun args w => run_callFunc_extern (e := (Extern.ReflectliteType.abiMethod fun t => do pure (.int .u8 (← Extern.Rtype.kind t)))) Tryd.func131 (by kernel_rfl) (by kernel_rfl) (by kernel_rfl) (by kernel_rfl) args w
theorem xt141 : ExtOk Tryd.prog 141 (Extern.ReflectliteType.relation "AssignableTo" Extern.ReflectliteType.assignableTo) := fun args w => run_callFunc_extern (e := (Extern.ReflectliteType.relation "AssignableTo" Extern.ReflectliteType.assignableTo)) Tryd.func141 (by kernel_rfl) (by kernel_rfl) (by kernel_rfl) (by kernel_rfl) args w
theorem xt142 : ExtOk Tryd.prog 142 (Extern.ReflectliteType.method fun t => do Extern.Rtype.noPackHeld "Comparable" t; pure (.bool (← typeInfo t).comparable)) := fun args w => run_callFunc_extern (e := (Extern.ReflectliteType.method fun t => do Extern.Rtype.noPackHeld "Comparable" t; pure (.bool (← typeInfo t).comparable))) Tryd.func142 (by kernel_rfl) (by kernel_rfl) (by kernel_rfl) (by kernel_rfl) args w
theorem xt143 : ExtOk Tryd.prog 143 (Extern.ReflectliteType.method Extern.ReflectliteType.elem) := fun args w => run_callFunc_extern (e := (Extern.ReflectliteType.method Extern.ReflectliteType.elem)) Tryd.func143 (by kernel_rfl) (by kernel_rfl) (by kernel_rfl) (by kernel_rfl) args w
theorem xt144 : ExtOk Tryd.prog 144 (Extern.ReflectliteType.relation "Implements" Extern.ReflectliteType.implements_) := fun args w => run_callFunc_extern (e := (Extern.ReflectliteType.relation "Implements" Extern.ReflectliteType.implements_)) Tryd.func144 (by kernel_rfl) (by kernel_rfl) (by kernel_rfl) (by kernel_rfl) args w
theorem xt86 : ExtOk Tryd.prog 86 (fun args => Extern.ReflectliteValue.unpack (args.getD 0 (.tuple #[]))) := fun args w => run_callFunc_extern (e := (fun args => Extern.ReflectliteValue.unpack (args.getD 0 (.tuple #[])))) Tryd.func86 (by kernel_rfl) (by kernel_rfl) (by kernel_rfl) (by kernel_rfl) args w
theorem xt87 : ExtOk Tryd.prog 87 (Extern.ReflectliteValue.methodAny (Extern.ReflectliteValue.valueError "reflectlite.Value.Type" 0) (fun t _ _ _ => Extern.ReflectliteType.toType t)) := fun args w => run_callFunc_extern (e := (Extern.ReflectliteValue.methodAny (Extern.ReflectliteValue.valueError "reflectlite.Value.Type" 0) (fun t _ _ _ => Extern.ReflectliteType.toType t))) Tryd.func87 (by kernel_rfl) (by kernel_rfl) (by kernel_rfl) (by kernel_rfl) args w
theorem xt88 : ExtOk Tryd.prog 88 (Extern.ReflectliteValue.method (Extern.ReflectliteValue.valueError "reflectlite.Value.IsNil" 0) Extern.ReflectliteValue.isNil) := fun args w => run_callFunc_extern (e := (Extern.ReflectliteValue.method (Extern.ReflectliteValue.valueError "reflectlite.Value.IsNil" 0) Extern.ReflectliteValue.isNil)) Tryd.func88 (by kernel_rfl) (by kernel_rfl) (by kernel_rfl) (by kernel_rfl) args w
theorem ze117 : (Tryd.prog.info? 117).map (·.zero) = some (some .nilFunc) := by kernel_rfl
theorem ze125 : (Tryd.prog.info? 125).map (·.zero) = some (some (.agg #[(.int .i64 (0 : Int)), (.int .i64 (0 : Int)), (.int .i64 (0 : Int)), (.int .i64 (0 : Int)), (.int .i64 (0 : Int)), (.int .i64 (0 : Int)), (.int .i64 (0 : Int)), (.int .i64 (0 : Int))])) := by kernel_rfl
theorem ze127 : (Tryd.prog.info? 127).map (·.zero) = some (some (.agg #[(.string (⟨#[]⟩ : ByteArray)), (.string (⟨#[]⟩ : ByteArray)), (.string (⟨#[]⟩ : ByteArray)), (.string (⟨#[]⟩ : ByteArray))])) := by kernel_rfl
theorem ze148 : (Tryd.prog.info? 148).map (·.zero) = some (some (.agg #[(.pointer none), (.pointer none), (.int .u64 (0 : Int))])) := by kernel_rfl
theorem ze174 : (Tryd.prog.info? 174).map (·.zero) = some (some (.agg #[(.slice none 0 0), (.int .i64 (0 : Int)), (.nilIface)])) := by kernel_rfl
theorem ze26 : (Tryd.prog.info? 26).map (·.zero) = some (some (.slice none 0 0)) := by kernel_rfl
theorem ze3 : (Tryd.prog.info? 3).map (·.zero) = some (some (.int .i64 (0 : Int))) := by kernel_rfl
theorem ze40 : (Tryd.prog.info? 40).map (·.zero) = some (some (.agg #[(.int .i64 (0 : Int)), (.slice none 0 0)])) := by kernel_rfl
theorem ze42 : (Tryd.prog.info? 42).map (·.zero) = some (some (.int .u64 (0 : Int))) := by kernel_rfl
theorem ze47 : (Tryd.prog.info? 47).map (·.zero) = some (some (.int .i64 (0 : Int))) := by kernel_rfl
theorem ze66 : (Tryd.prog.info? 66).map (·.zero) = some (some (.agg #[(.int .i64 (0 : Int)), (.int .i64 (0 : Int)), (.int .i64 (0 : Int)), (.bool false), (.bool false)])) := by kernel_rfl
theorem ze68 : (Tryd.prog.info? 68).map (·.zero) = some (some (.agg #[(.int .i64 (0 : Int)), (.int .i64 (0 : Int)), (.int .i64 (0 : Int)), (.string (⟨#[]⟩ : ByteArray)), (.string (⟨#[]⟩ : ByteArray)), (.string (⟨#[]⟩ : ByteArray)), (.bool false), (.int .i64 (0 : Int)), (.int .i64 (0 : Int)), (.int .i64 (0 : Int)), (.slice none 0 0), (.int .i64 (0 : Int)), (.int .i64 (0 : Int)), (.string (⟨#[]⟩ : ByteArray)), (.int .i64 (0 : Int)), (.int .i64 (0 : Int)), (.int .i64 (0 : Int)), (.bool false), (.bool false)])) := by kernel_rfl
theorem ze70 : (Tryd.prog.info? 70).map (·.zero) = some (some (.agg #[(.bool false), (.bool false), (.bool false)])) := by kernel_rfl
theorem ze72 : (Tryd.prog.info? 72).map (·.zero) = some (some (.agg #[(.int .i64 (0 : Int)), (.int .i64 (0 : Int)), (.int .i64 (0 : Int)), (.int .i64 (0 : Int)), (.bool false), (.bool false), (.bool false)])) := by kernel_rfl
theorem ze77 : (Tryd.prog.info? 77).map (·.zero) = some (some (.agg #[(.string (⟨#[]⟩ : ByteArray)), (.int .i64 (0 : Int)), (.int .i64 (0 : Int))])) := by kernel_rfl
theorem ze99 : (Tryd.prog.info? 99).map (·.zero) = some (some (.agg #[(.string (⟨#[]⟩ : ByteArray)), (.int .i64 (0 : Int)), (.nilIface)])) := by kernel_rfl
theorem zo185 : (Tryd.prog.info? 185).map (·.zero) = some (some .nilIface) := by kernel_rfl
theorem zo186 : (Tryd.prog.info? 186).map (·.zero) = some (some .nilIface) := by kernel_rfl
theorem zo192 : (Tryd.prog.info? 192).map (·.zero) = some (some .nilIface) := by kernel_rfl
theorem mixed : Tryd.prog.follows .mixedOrders = true := by kernel_rfl

end Go.Proofs.YtjgnbbakamellaaDoor.G
