/- Closed facts on the program's types. Printed by a program of the session (gen). -/
import Derived.Test.YtjgnbbakamellaaGreatDoorBT
import Derived.Test.YtjgnbbakamellaaGreatDoorProg
set_option linter.unusedVariables false
set_option linter.unusedSimpArgs false
set_option maxHeartbeats 8000000
set_option maxRecDepth 100000
namespace Go.Proofs.YtjgnbbakamellaaGreatDoor.G
open Go Go.KK

def Env (M : IM) : Prop := M.cell ⟨0, 0, none⟩ = some (.iface 143 (.agg #[(.pointer (some ⟨1, 30, none⟩))]))
theorem Env.mono {M M' : IM} (h : Env M) (hle : M.le M') : Env M' := hle.cell h
theorem ag106 : aggB Tryz.prog 106 = true := by kernel_rfl
theorem ag135 : aggB Tryz.prog 135 = true := by kernel_rfl
theorem ag26 : aggB Tryz.prog 26 = true := by kernel_rfl
theorem ag28 : aggB Tryz.prog 28 = true := by kernel_rfl
theorem ag34 : aggB Tryz.prog 34 = true := by kernel_rfl
theorem ag37 : aggB Tryz.prog 37 = true := by kernel_rfl
theorem ag41 : aggB Tryz.prog 41 = true := by kernel_rfl
theorem ag43 : aggB Tryz.prog 43 = true := by kernel_rfl
theorem ag67 : aggB Tryz.prog 67 = true := by kernel_rfl
theorem ag87 : aggB Tryz.prog 87 = true := by kernel_rfl
theorem ag89 : aggB Tryz.prog 89 = true := by kernel_rfl
theorem ag98 : aggB Tryz.prog 98 = true := by kernel_rfl
theorem cc113 : Tryz.prog.concrete 113 = true := by kernel_rfl
theorem cc114 : Tryz.prog.concrete 114 = true := by kernel_rfl
theorem cc35 : Tryz.prog.concrete 35 = true := by kernel_rfl
theorem cc98 : Tryz.prog.concrete 98 = true := by kernel_rfl
theorem cm35 : (Tryz.prog.info? 35).map (·.comparable) = some true := by kernel_rfl
theorem co10 : callOk Tryz.prog 10 = true := by kernel_rfl
theorem co108 : callOk Tryz.prog 108 = true := by kernel_rfl
theorem co11 : callOk Tryz.prog 11 = true := by kernel_rfl
theorem co12 : callOk Tryz.prog 12 = true := by kernel_rfl
theorem co13 : callOk Tryz.prog 13 = true := by kernel_rfl
theorem co14 : callOk Tryz.prog 14 = true := by kernel_rfl
theorem co15 : callOk Tryz.prog 15 = true := by kernel_rfl
theorem co16 : callOk Tryz.prog 16 = true := by kernel_rfl
theorem co17 : callOk Tryz.prog 17 = true := by kernel_rfl
theorem co18 : callOk Tryz.prog 18 = true := by kernel_rfl
theorem co19 : callOk Tryz.prog 19 = true := by kernel_rfl
theorem co20 : callOk Tryz.prog 20 = true := by kernel_rfl
theorem co21 : callOk Tryz.prog 21 = true := by kernel_rfl
theorem co22 : callOk Tryz.prog 22 = true := by kernel_rfl
theorem co23 : callOk Tryz.prog 23 = true := by kernel_rfl
theorem co24 : callOk Tryz.prog 24 = true := by kernel_rfl
theorem co25 : callOk Tryz.prog 25 = true := by kernel_rfl
theorem co26 : callOk Tryz.prog 26 = true := by kernel_rfl
theorem co27 : callOk Tryz.prog 27 = true := by kernel_rfl
theorem co28 : callOk Tryz.prog 28 = true := by kernel_rfl
theorem co29 : callOk Tryz.prog 29 = true := by kernel_rfl
theorem co30 : callOk Tryz.prog 30 = true := by kernel_rfl
theorem co31 : callOk Tryz.prog 31 = true := by kernel_rfl
theorem co32 : callOk Tryz.prog 32 = true := by kernel_rfl
theorem co33 : callOk Tryz.prog 33 = true := by kernel_rfl
theorem co34 : callOk Tryz.prog 34 = true := by kernel_rfl
theorem co35 : callOk Tryz.prog 35 = true := by kernel_rfl
theorem co36 : callOk Tryz.prog 36 = true := by kernel_rfl
theorem co37 : callOk Tryz.prog 37 = true := by kernel_rfl
theorem co38 : callOk Tryz.prog 38 = true := by kernel_rfl
theorem co39 : callOk Tryz.prog 39 = true := by kernel_rfl
theorem co4 : callOk Tryz.prog 4 = true := by kernel_rfl
theorem co40 : callOk Tryz.prog 40 = true := by kernel_rfl
theorem co41 : callOk Tryz.prog 41 = true := by kernel_rfl
theorem co42 : callOk Tryz.prog 42 = true := by kernel_rfl
theorem co43 : callOk Tryz.prog 43 = true := by kernel_rfl
theorem co44 : callOk Tryz.prog 44 = true := by kernel_rfl
theorem co45 : callOk Tryz.prog 45 = true := by kernel_rfl
theorem co46 : callOk Tryz.prog 46 = true := by kernel_rfl
theorem co47 : callOk Tryz.prog 47 = true := by kernel_rfl
theorem co48 : callOk Tryz.prog 48 = true := by kernel_rfl
theorem co49 : callOk Tryz.prog 49 = true := by kernel_rfl
theorem co5 : callOk Tryz.prog 5 = true := by kernel_rfl
theorem co50 : callOk Tryz.prog 50 = true := by kernel_rfl
theorem co51 : callOk Tryz.prog 51 = true := by kernel_rfl
theorem co52 : callOk Tryz.prog 52 = true := by kernel_rfl
theorem co53 : callOk Tryz.prog 53 = true := by kernel_rfl
theorem co54 : callOk Tryz.prog 54 = true := by kernel_rfl
theorem co55 : callOk Tryz.prog 55 = true := by kernel_rfl
theorem co56 : callOk Tryz.prog 56 = true := by kernel_rfl
theorem co57 : callOk Tryz.prog 57 = true := by kernel_rfl
theorem co58 : callOk Tryz.prog 58 = true := by kernel_rfl
theorem co59 : callOk Tryz.prog 59 = true := by kernel_rfl
theorem co6 : callOk Tryz.prog 6 = true := by kernel_rfl
theorem co60 : callOk Tryz.prog 60 = true := by kernel_rfl
theorem co61 : callOk Tryz.prog 61 = true := by kernel_rfl
theorem co62 : callOk Tryz.prog 62 = true := by kernel_rfl
theorem co63 : callOk Tryz.prog 63 = true := by kernel_rfl
theorem co64 : callOk Tryz.prog 64 = true := by kernel_rfl
theorem co65 : callOk Tryz.prog 65 = true := by kernel_rfl
theorem co66 : callOk Tryz.prog 66 = true := by kernel_rfl
theorem co67 : callOk Tryz.prog 67 = true := by kernel_rfl
theorem co68 : callOk Tryz.prog 68 = true := by kernel_rfl
theorem co69 : callOk Tryz.prog 69 = true := by kernel_rfl
theorem co7 : callOk Tryz.prog 7 = true := by kernel_rfl
theorem co70 : callOk Tryz.prog 70 = true := by kernel_rfl
theorem co72 : callOk Tryz.prog 72 = true := by kernel_rfl
theorem co73 : callOk Tryz.prog 73 = true := by kernel_rfl
theorem co74 : callOk Tryz.prog 74 = true := by kernel_rfl
theorem co75 : callOk Tryz.prog 75 = true := by kernel_rfl
theorem co76 : callOk Tryz.prog 76 = true := by kernel_rfl
theorem co77 : callOk Tryz.prog 77 = true := by kernel_rfl
theorem co78 : callOk Tryz.prog 78 = true := by kernel_rfl
theorem co79 : callOk Tryz.prog 79 = true := by kernel_rfl
theorem co8 : callOk Tryz.prog 8 = true := by kernel_rfl
theorem co83 : callOk Tryz.prog 83 = true := by kernel_rfl
theorem co84 : callOk Tryz.prog 84 = true := by kernel_rfl
theorem co85 : callOk Tryz.prog 85 = true := by kernel_rfl
theorem co9 : callOk Tryz.prog 9 = true := by kernel_rfl
theorem da35 (w : World) : (Extern.Rtype.directlyAssignable 35 35).run Tryz.prog w = .ok true w := by kernel_rfl
theorem da98 (w : World) : (Extern.Rtype.directlyAssignable 98 98).run Tryz.prog w = .ok true w := by kernel_rfl
theorem eg26 : Tryz.prog.eqGuardType Tryz.prog.depth 26 = false := by kernel_rfl
theorem eg43 : Tryz.prog.eqGuardType Tryz.prog.depth 43 = false := by kernel_rfl
theorem eg87 : Tryz.prog.eqGuardType Tryz.prog.depth 87 = false := by kernel_rfl
theorem eg89 : Tryz.prog.eqGuardType Tryz.prog.depth 89 = false := by kernel_rfl
theorem el113 (w : World) : (Extern.Rtype.elem? 113).run Tryz.prog w = .ok (some 98) w := by kernel_rfl
theorem el114 (w : World) : (Extern.Rtype.elem? 114).run Tryz.prog w = .ok (some 35) w := by kernel_rfl
theorem eq26 : eqStruct Tryz.prog 26 = true := by kernel_rfl
theorem eq41 : eqStruct Tryz.prog 41 = true := by kernel_rfl
theorem eq43 : eqStruct Tryz.prog 43 = true := by kernel_rfl
theorem fo100_0 : fldOff Tryz.prog 100 0 = some 0 := by kernel_rfl
theorem fo100_1 : fldOff Tryz.prog 100 1 = some 1 := by kernel_rfl
theorem fo100_2 : fldOff Tryz.prog 100 2 = some 2 := by kernel_rfl
theorem fo106_0 : fldOff Tryz.prog 106 0 = some 0 := by kernel_rfl
theorem fo106_1 : fldOff Tryz.prog 106 1 = some 1 := by kernel_rfl
theorem fo106_2 : fldOff Tryz.prog 106 2 = some 2 := by kernel_rfl
theorem fo106_3 : fldOff Tryz.prog 106 3 = some 3 := by kernel_rfl
theorem fo110_0 : fldOff Tryz.prog 110 0 = some 0 := by kernel_rfl
theorem fo110_1 : fldOff Tryz.prog 110 1 = some 1 := by kernel_rfl
theorem fo110_2 : fldOff Tryz.prog 110 2 = some 2 := by kernel_rfl
theorem fo26_0 : fldOff Tryz.prog 26 0 = some 0 := by kernel_rfl
theorem fo26_1 : fldOff Tryz.prog 26 1 = some 1 := by kernel_rfl
theorem fo26_2 : fldOff Tryz.prog 26 2 = some 2 := by kernel_rfl
theorem fo26_3 : fldOff Tryz.prog 26 3 = some 3 := by kernel_rfl
theorem fo26_4 : fldOff Tryz.prog 26 4 = some 4 := by kernel_rfl
theorem fo28_0 : fldOff Tryz.prog 28 0 = some 0 := by kernel_rfl
theorem fo28_1 : fldOff Tryz.prog 28 1 = some 1 := by kernel_rfl
theorem fo28_10 : fldOff Tryz.prog 28 10 = some 10 := by kernel_rfl
theorem fo28_11 : fldOff Tryz.prog 28 11 = some 11 := by kernel_rfl
theorem fo28_12 : fldOff Tryz.prog 28 12 = some 12 := by kernel_rfl
theorem fo28_13 : fldOff Tryz.prog 28 13 = some 13 := by kernel_rfl
theorem fo28_14 : fldOff Tryz.prog 28 14 = some 14 := by kernel_rfl
theorem fo28_2 : fldOff Tryz.prog 28 2 = some 2 := by kernel_rfl
theorem fo28_3 : fldOff Tryz.prog 28 3 = some 3 := by kernel_rfl
theorem fo28_4 : fldOff Tryz.prog 28 4 = some 4 := by kernel_rfl
theorem fo28_5 : fldOff Tryz.prog 28 5 = some 5 := by kernel_rfl
theorem fo28_6 : fldOff Tryz.prog 28 6 = some 6 := by kernel_rfl
theorem fo28_7 : fldOff Tryz.prog 28 7 = some 7 := by kernel_rfl
theorem fo28_8 : fldOff Tryz.prog 28 8 = some 8 := by kernel_rfl
theorem fo28_9 : fldOff Tryz.prog 28 9 = some 9 := by kernel_rfl
theorem fo34_0 : fldOff Tryz.prog 34 0 = some 0 := by kernel_rfl
theorem fo34_1 : fldOff Tryz.prog 34 1 = some 1 := by kernel_rfl
theorem fo37_0 : fldOff Tryz.prog 37 0 = some 0 := by kernel_rfl
theorem fo37_1 : fldOff Tryz.prog 37 1 = some 1 := by kernel_rfl
theorem fo37_2 : fldOff Tryz.prog 37 2 = some 2 := by kernel_rfl
theorem fo41_0 : fldOff Tryz.prog 41 0 = some 0 := by kernel_rfl
theorem fo41_1 : fldOff Tryz.prog 41 1 = some 1 := by kernel_rfl
theorem fo41_2 : fldOff Tryz.prog 41 2 = some 2 := by kernel_rfl
theorem fo43_0 : fldOff Tryz.prog 43 0 = some 0 := by kernel_rfl
theorem fo43_1 : fldOff Tryz.prog 43 1 = some 1 := by kernel_rfl
theorem fo43_2 : fldOff Tryz.prog 43 2 = some 2 := by kernel_rfl
theorem fo43_3 : fldOff Tryz.prog 43 3 = some 3 := by kernel_rfl
theorem fo43_4 : fldOff Tryz.prog 43 4 = some 4 := by kernel_rfl
theorem fo67_0 : fldOff Tryz.prog 67 0 = some 0 := by kernel_rfl
theorem fo67_1 : fldOff Tryz.prog 67 1 = some 1 := by kernel_rfl
theorem fo67_2 : fldOff Tryz.prog 67 2 = some 2 := by kernel_rfl
theorem fo67_3 : fldOff Tryz.prog 67 3 = some 3 := by kernel_rfl
theorem fo69_0 : fldOff Tryz.prog 69 0 = some 0 := by kernel_rfl
theorem fo69_1 : fldOff Tryz.prog 69 1 = some 1 := by kernel_rfl
theorem fo98_0 : fldOff Tryz.prog 98 0 = some 0 := by kernel_rfl
theorem fo98_1 : fldOff Tryz.prog 98 1 = some 1 := by kernel_rfl
theorem fo98_2 : fldOff Tryz.prog 98 2 = some 2 := by kernel_rfl
theorem fp100 : fldPlace Tryz.prog 100 = some [(0, 1), (1, 1), (2, 1)] := by kernel_rfl
theorem fp106 : fldPlace Tryz.prog 106 = some [(0, 1), (1, 1), (2, 1), (3, 1)] := by kernel_rfl
theorem fp110 : fldPlace Tryz.prog 110 = some [(0, 1), (1, 1), (2, 1)] := by kernel_rfl
theorem fp26 : fldPlace Tryz.prog 26 = some [(0, 1), (1, 1), (2, 1), (3, 1), (4, 1)] := by kernel_rfl
theorem fp28 : fldPlace Tryz.prog 28 = some [(0, 1), (1, 1), (2, 1), (3, 1), (4, 1), (5, 1), (6, 1), (7, 1), (8, 1), (9, 1), (10, 1), (11, 1), (12, 1), (13, 1), (14, 5)] := by kernel_rfl
theorem fp34 : fldPlace Tryz.prog 34 = some [(0, 1), (1, 1)] := by kernel_rfl
theorem fp37 : fldPlace Tryz.prog 37 = some [(0, 1), (1, 1), (2, 1)] := by kernel_rfl
theorem fp41 : fldPlace Tryz.prog 41 = some [(0, 1), (1, 1), (2, 1)] := by kernel_rfl
theorem fp43 : fldPlace Tryz.prog 43 = some [(0, 1), (1, 1), (2, 1), (3, 1), (4, 3)] := by kernel_rfl
theorem fp67 : fldPlace Tryz.prog 67 = some [(0, 1), (1, 1), (2, 1), (3, 1)] := by kernel_rfl
theorem fp69 : fldPlace Tryz.prog 69 = some [(0, 1), (1, 4)] := by kernel_rfl
theorem fp98 : fldPlace Tryz.prog 98 = some [(0, 1), (1, 1), (2, 1)] := by kernel_rfl
theorem ha98_148 (v : Value) (xT : TypeId) (w : World) : (Instr.typeAssert (.iface 98 v) xT 148 true).run Tryz.prog w = .ok (.tuple #[.iface 98 v, .bool true]) w := run_typeAssert_hasB Tryz.underlying148 (by kernel_rfl) v xT w
theorem in3 : (Tryz.prog.info? 3).map (fun i => (i.size, i.bytes, i.zero)) = some (1, 8, some (.int .i64 (0 : Int))) := by kernel_rfl
theorem in5 : (Tryz.prog.info? 5).map (fun i => (i.size, i.bytes, i.zero)) = some (1, 1, some (.int .u8 (0 : Int))) := by kernel_rfl
theorem in9 : (Tryz.prog.info? 9).map (fun i => (i.size, i.bytes, i.zero)) = some (1, 16, some (.string (⟨#[]⟩ : ByteArray))) := by kernel_rfl
theorem iz3 : (Tryz.prog.info? 3).map (fun i => (i.size, i.zero)) = some (1, some (.int .i64 (0 : Int))) := by kernel_rfl
theorem iz5 : (Tryz.prog.info? 5).map (fun i => (i.size, i.zero)) = some (1, some (.int .u8 (0 : Int))) := by kernel_rfl
theorem iz9 : (Tryz.prog.info? 9).map (fun i => (i.size, i.zero)) = some (1, some (.string (⟨#[]⟩ : ByteArray))) := by kernel_rfl
theorem la0_145 (v : Value) (xT : TypeId) (w : World) : (Instr.typeAssert (.iface 0 v) xT 145 true).run Tryz.prog w = .ok (.tuple #[.nilIface, .bool false]) w := run_typeAssert_lacksB Tryz.underlying145 (by kernel_rfl) (by kernel_rfl) v xT w
theorem la0_148 (v : Value) (xT : TypeId) (w : World) : (Instr.typeAssert (.iface 0 v) xT 148 true).run Tryz.prog w = .ok (.tuple #[.nilIface, .bool false]) w := run_typeAssert_lacksB Tryz.underlying148 (by kernel_rfl) (by kernel_rfl) v xT w
theorem la0_149 (v : Value) (xT : TypeId) (w : World) : (Instr.typeAssert (.iface 0 v) xT 149 true).run Tryz.prog w = .ok (.tuple #[.nilIface, .bool false]) w := run_typeAssert_lacksB Tryz.underlying149 (by kernel_rfl) (by kernel_rfl) v xT w
theorem la0_156 (v : Value) (xT : TypeId) (w : World) : (Instr.typeAssert (.iface 0 v) xT 156 true).run Tryz.prog w = .ok (.tuple #[.nilIface, .bool false]) w := run_typeAssert_lacksB Tryz.underlying156 (by kernel_rfl) (by kernel_rfl) v xT w
theorem la35_145 (v : Value) (xT : TypeId) (w : World) : (Instr.typeAssert (.iface 35 v) xT 145 true).run Tryz.prog w = .ok (.tuple #[.nilIface, .bool false]) w := run_typeAssert_lacksB Tryz.underlying145 (by kernel_rfl) (by kernel_rfl) v xT w
theorem la35_148 (v : Value) (xT : TypeId) (w : World) : (Instr.typeAssert (.iface 35 v) xT 148 true).run Tryz.prog w = .ok (.tuple #[.nilIface, .bool false]) w := run_typeAssert_lacksB Tryz.underlying148 (by kernel_rfl) (by kernel_rfl) v xT w
theorem la35_149 (v : Value) (xT : TypeId) (w : World) : (Instr.typeAssert (.iface 35 v) xT 149 true).run Tryz.prog w = .ok (.tuple #[.nilIface, .bool false]) w := run_typeAssert_lacksB Tryz.underlying149 (by kernel_rfl) (by kernel_rfl) v xT w
theorem la35_156 (v : Value) (xT : TypeId) (w : World) : (Instr.typeAssert (.iface 35 v) xT 156 true).run Tryz.prog w = .ok (.tuple #[.nilIface, .bool false]) w := run_typeAssert_lacksB Tryz.underlying156 (by kernel_rfl) (by kernel_rfl) v xT w
theorem la98_145 (v : Value) (xT : TypeId) (w : World) : (Instr.typeAssert (.iface 98 v) xT 145 true).run Tryz.prog w = .ok (.tuple #[.nilIface, .bool false]) w := run_typeAssert_lacksB Tryz.underlying145 (by kernel_rfl) (by kernel_rfl) v xT w
theorem la98_156 (v : Value) (xT : TypeId) (w : World) : (Instr.typeAssert (.iface 98 v) xT 156 true).run Tryz.prog w = .ok (.tuple #[.nilIface, .bool false]) w := run_typeAssert_lacksB Tryz.underlying156 (by kernel_rfl) (by kernel_rfl) v xT w
theorem me98_Unwrap (v : Value) (w : World) : (method (mdepth Tryz.prog) 98 v "Unwrap").run Tryz.prog w = .ok (108, v) w := by kernel_rfl
theorem mk35 (p : Addr) (w : World) : (Extern.ReflectliteValue.mk 35 p Extern.ReflectliteValue.flagAddr).run Tryz.prog w = .ok (.agg #[(.pointer (some ⟨1, 35, none⟩)), .pointer (some p), .int .u64 386]) w := by kernel_rfl
theorem mk98 (p : Addr) (w : World) : (Extern.ReflectliteValue.mk 98 p Extern.ReflectliteValue.flagAddr).run Tryz.prog w = .ok (.agg #[(.pointer (some ⟨1, 98, none⟩)), .pointer (some p), .int .u64 409]) w := by kernel_rfl
theorem mm_AssignableTo (h : Value) (w : World) : (method (mdepth Tryz.prog) 143 (.agg #[h]) "AssignableTo").run Tryz.prog w = .ok (113, .agg #[h]) w := by kernel_rfl
theorem mm_Comparable (h : Value) (w : World) : (method (mdepth Tryz.prog) 143 (.agg #[h]) "Comparable").run Tryz.prog w = .ok (114, .agg #[h]) w := by kernel_rfl
theorem mm_Elem (h : Value) (w : World) : (method (mdepth Tryz.prog) 143 (.agg #[h]) "Elem").run Tryz.prog w = .ok (115, .agg #[h]) w := by kernel_rfl
theorem mm_Implements (h : Value) (w : World) : (method (mdepth Tryz.prog) 143 (.agg #[h]) "Implements").run Tryz.prog w = .ok (116, .agg #[h]) w := by kernel_rfl
theorem mm_Kind (h : Value) (w : World) : (method (mdepth Tryz.prog) 143 (.agg #[h]) "Kind").run Tryz.prog w = .ok (102, h) w := by kernel_rfl
theorem mr_AssignableTo_0_35 (w : World) : ((Extern.ReflectliteType.relation "AssignableTo" Extern.ReflectliteType.assignableTo) #[.agg #[(.pointer (some ⟨1, 0, none⟩))], (.iface 143 (.agg #[.pointer (some ⟨1, 35, none⟩)]))]).run Tryz.prog w = .ok (.bool false) w := by kernel_rfl
theorem mr_AssignableTo_0_98 (w : World) : ((Extern.ReflectliteType.relation "AssignableTo" Extern.ReflectliteType.assignableTo) #[.agg #[(.pointer (some ⟨1, 0, none⟩))], (.iface 143 (.agg #[.pointer (some ⟨1, 98, none⟩)]))]).run Tryz.prog w = .ok (.bool false) w := by kernel_rfl
theorem mr_AssignableTo_35_35 (w : World) : ((Extern.ReflectliteType.relation "AssignableTo" Extern.ReflectliteType.assignableTo) #[.agg #[(.pointer (some ⟨1, 35, none⟩))], (.iface 143 (.agg #[.pointer (some ⟨1, 35, none⟩)]))]).run Tryz.prog w = .ok (.bool true) w := by kernel_rfl
theorem mr_AssignableTo_35_98 (w : World) : ((Extern.ReflectliteType.relation "AssignableTo" Extern.ReflectliteType.assignableTo) #[.agg #[(.pointer (some ⟨1, 35, none⟩))], (.iface 143 (.agg #[.pointer (some ⟨1, 98, none⟩)]))]).run Tryz.prog w = .ok (.bool false) w := by kernel_rfl
theorem mr_AssignableTo_98_35 (w : World) : ((Extern.ReflectliteType.relation "AssignableTo" Extern.ReflectliteType.assignableTo) #[.agg #[(.pointer (some ⟨1, 98, none⟩))], (.iface 143 (.agg #[.pointer (some ⟨1, 35, none⟩)]))]).run Tryz.prog w = .ok (.bool false) w := by kernel_rfl
theorem mr_AssignableTo_98_98 (w : World) : ((Extern.ReflectliteType.relation "AssignableTo" Extern.ReflectliteType.assignableTo) #[.agg #[(.pointer (some ⟨1, 98, none⟩))], (.iface 143 (.agg #[.pointer (some ⟨1, 98, none⟩)]))]).run Tryz.prog w = .ok (.bool true) w := by kernel_rfl
theorem mr_Comparable_35 (w : World) : ((Extern.ReflectliteType.method fun t => do Extern.Rtype.noPackHeld "Comparable" t; pure (.bool (← typeInfo t).comparable)) #[.agg #[(.pointer (some ⟨1, 35, none⟩))]]).run Tryz.prog w = .ok (.bool true) w := by kernel_rfl
theorem mr_Elem_113 (w : World) : ((Extern.ReflectliteType.method Extern.ReflectliteType.elem) #[.agg #[(.pointer (some ⟨1, 113, none⟩))]]).run Tryz.prog w = .ok (.iface 143 (.agg #[.pointer (some ⟨1, 98, none⟩)])) w := by kernel_rfl
theorem mr_Elem_114 (w : World) : ((Extern.ReflectliteType.method Extern.ReflectliteType.elem) #[.agg #[(.pointer (some ⟨1, 114, none⟩))]]).run Tryz.prog w = .ok (.iface 143 (.agg #[.pointer (some ⟨1, 35, none⟩)])) w := by kernel_rfl
theorem mr_Implements_35_30 (w : World) : ((Extern.ReflectliteType.relation "Implements" Extern.ReflectliteType.implements_) #[.agg #[(.pointer (some ⟨1, 35, none⟩))], (.iface 143 (.agg #[.pointer (some ⟨1, 30, none⟩)]))]).run Tryz.prog w = .ok (.bool true) w := by kernel_rfl
theorem mr_Implements_98_30 (w : World) : ((Extern.ReflectliteType.relation "Implements" Extern.ReflectliteType.implements_) #[.agg #[(.pointer (some ⟨1, 98, none⟩))], (.iface 143 (.agg #[.pointer (some ⟨1, 30, none⟩)]))]).run Tryz.prog w = .ok (.bool true) w := by kernel_rfl
theorem mr_Kind_113 (w : World) : ((Extern.ReflectliteType.abiMethod fun t => do pure (.int .u8 (← Extern.Rtype.kind t))) #[(.pointer (some ⟨1, 113, none⟩))]).run Tryz.prog w = .ok (.int .u8 (22 : Int)) w := by kernel_rfl
theorem mr_Kind_114 (w : World) : ((Extern.ReflectliteType.abiMethod fun t => do pure (.int .u8 (← Extern.Rtype.kind t))) #[(.pointer (some ⟨1, 114, none⟩))]).run Tryz.prog w = .ok (.int .u8 (22 : Int)) w := by kernel_rfl
theorem mr_Kind_35 (w : World) : ((Extern.ReflectliteType.abiMethod fun t => do pure (.int .u8 (← Extern.Rtype.kind t))) #[(.pointer (some ⟨1, 35, none⟩))]).run Tryz.prog w = .ok (.int .u8 (2 : Int)) w := by kernel_rfl
theorem mr_Kind_98 (w : World) : ((Extern.ReflectliteType.abiMethod fun t => do pure (.int .u8 (← Extern.Rtype.kind t))) #[(.pointer (some ⟨1, 98, none⟩))]).run Tryz.prog w = .ok (.int .u8 (25 : Int)) w := by kernel_rfl
theorem pl101 : plainT Tryz.prog 101 = true := by kernel_rfl
theorem pl113 : plainT Tryz.prog 113 = true := by kernel_rfl
theorem pl114 : plainT Tryz.prog 114 = true := by kernel_rfl
theorem pl119 : plainT Tryz.prog 119 = true := by kernel_rfl
theorem pl22 : plainT Tryz.prog 22 = true := by kernel_rfl
theorem pl24 : plainT Tryz.prog 24 = true := by kernel_rfl
theorem pl3 : plainT Tryz.prog 3 = true := by kernel_rfl
theorem pl30 : plainT Tryz.prog 30 = true := by kernel_rfl
theorem pl35 : plainT Tryz.prog 35 = true := by kernel_rfl
theorem pl4 : plainT Tryz.prog 4 = true := by kernel_rfl
theorem pl5 : plainT Tryz.prog 5 = true := by kernel_rfl
theorem pl60 : plainT Tryz.prog 60 = true := by kernel_rfl
theorem pl9 : plainT Tryz.prog 9 = true := by kernel_rfl
theorem pp113_150 (a : Addr) (w : World) : (Extern.ReflectliteValue.parts (.agg #[(.pointer (some ⟨1, 113, none⟩)), .pointer (some a), .int .u64 150])).run Tryz.prog w = .ok (some (113, a, 150)) w := by kernel_rfl
theorem pp114_150 (a : Addr) (w : World) : (Extern.ReflectliteValue.parts (.agg #[(.pointer (some ⟨1, 114, none⟩)), .pointer (some a), .int .u64 150])).run Tryz.prog w = .ok (some (114, a, 150)) w := by kernel_rfl
theorem pp35_130 (a : Addr) (w : World) : (Extern.ReflectliteValue.parts (.agg #[(.pointer (some ⟨1, 35, none⟩)), .pointer (some a), .int .u64 130])).run Tryz.prog w = .ok (some (35, a, 130)) w := by kernel_rfl
theorem pp35_386 (a : Addr) (w : World) : (Extern.ReflectliteValue.parts (.agg #[(.pointer (some ⟨1, 35, none⟩)), .pointer (some a), .int .u64 386])).run Tryz.prog w = .ok (some (35, a, 386)) w := by kernel_rfl
theorem pp98_153 (a : Addr) (w : World) : (Extern.ReflectliteValue.parts (.agg #[(.pointer (some ⟨1, 98, none⟩)), .pointer (some a), .int .u64 153])).run Tryz.prog w = .ok (some (98, a, 153)) w := by kernel_rfl
theorem pp98_409 (a : Addr) (w : World) : (Extern.ReflectliteValue.parts (.agg #[(.pointer (some ⟨1, 98, none⟩)), .pointer (some a), .int .u64 409])).run Tryz.prog w = .ok (some (98, a, 409)) w := by kernel_rfl
theorem sz101 : (Tryz.prog.info? 101).map (·.size) = some 1 := by kernel_rfl
theorem sz106 : (Tryz.prog.info? 106).map (·.size) = some 4 := by kernel_rfl
theorem sz135 : (Tryz.prog.info? 135).map (·.size) = some 3 := by kernel_rfl
theorem sz22 : (Tryz.prog.info? 22).map (·.size) = some 1 := by kernel_rfl
theorem sz24 : (Tryz.prog.info? 24).map (·.size) = some 1 := by kernel_rfl
theorem sz26 : (Tryz.prog.info? 26).map (·.size) = some 5 := by kernel_rfl
theorem sz28 : (Tryz.prog.info? 28).map (·.size) = some 19 := by kernel_rfl
theorem sz3 : (Tryz.prog.info? 3).map (·.size) = some 1 := by kernel_rfl
theorem sz30 : (Tryz.prog.info? 30).map (·.size) = some 1 := by kernel_rfl
theorem sz34 : (Tryz.prog.info? 34).map (·.size) = some 2 := by kernel_rfl
theorem sz35 : (Tryz.prog.info? 35).map (·.size) = some 1 := by kernel_rfl
theorem sz37 : (Tryz.prog.info? 37).map (·.size) = some 3 := by kernel_rfl
theorem sz4 : (Tryz.prog.info? 4).map (·.size) = some 1 := by kernel_rfl
theorem sz41 : (Tryz.prog.info? 41).map (·.size) = some 3 := by kernel_rfl
theorem sz43 : (Tryz.prog.info? 43).map (·.size) = some 7 := by kernel_rfl
theorem sz5 : (Tryz.prog.info? 5).map (·.size) = some 1 := by kernel_rfl
theorem sz60 : (Tryz.prog.info? 60).map (·.size) = some 1 := by kernel_rfl
theorem sz67 : (Tryz.prog.info? 67).map (·.size) = some 4 := by kernel_rfl
theorem sz87 : (Tryz.prog.info? 87).map (·.size) = some 8 := by kernel_rfl
theorem sz89 : (Tryz.prog.info? 89).map (·.size) = some 4 := by kernel_rfl
theorem sz9 : (Tryz.prog.info? 9).map (·.size) = some 1 := by kernel_rfl
theorem sz98 : (Tryz.prog.info? 98).map (·.size) = some 3 := by kernel_rfl
theorem ty0 (v : Value) (w : World) : (Extern.ReflectliteType.typeOf #[.iface 0 v]).run Tryz.prog w = .ok (.iface 143 (.agg #[(.pointer (some ⟨1, 0, none⟩))])) w := by kernel_rfl
theorem ty35 (v : Value) (w : World) : (Extern.ReflectliteType.typeOf #[.iface 35 v]).run Tryz.prog w = .ok (.iface 143 (.agg #[(.pointer (some ⟨1, 35, none⟩))])) w := by kernel_rfl
theorem ty98 (v : Value) (w : World) : (Extern.ReflectliteType.typeOf #[.iface 98 v]).run Tryz.prog w = .ok (.iface 143 (.agg #[(.pointer (some ⟨1, 98, none⟩))])) w := by kernel_rfl
theorem tyNil (w : World) : (Extern.ReflectliteType.typeOf #[.nilIface]).run Tryz.prog w = .ok .nilIface w := by kernel_rfl
theorem us101 : (Tryz.prog.underlying 101).isSome = true := by kernel_rfl
theorem us3 : (Tryz.prog.underlying 3).isSome = true := by kernel_rfl
theorem us5 : (Tryz.prog.underlying 5).isSome = true := by kernel_rfl
theorem vo113 (p : Addr) (w : World) : (Extern.ReflectliteValue.unpack (.iface 113 (.pointer (some p)))).run Tryz.prog w = .ok (.agg #[(.pointer (some ⟨1, 113, none⟩)), .pointer (some ⟨w.heap.size, 0, none⟩), .int .u64 150]) (w.alloc (.cells #[.pointer (some p)] 113)) := by kernel_rfl
theorem vo114 (p : Addr) (w : World) : (Extern.ReflectliteValue.unpack (.iface 114 (.pointer (some p)))).run Tryz.prog w = .ok (.agg #[(.pointer (some ⟨1, 114, none⟩)), .pointer (some ⟨w.heap.size, 0, none⟩), .int .u64 150]) (w.alloc (.cells #[.pointer (some p)] 114)) := by kernel_rfl
theorem vo35 (n : Int) (w : World) : (Extern.ReflectliteValue.unpack (.iface 35 (.int .i64 n))).run Tryz.prog w = .ok (.agg #[(.pointer (some ⟨1, 35, none⟩)), .pointer (some ⟨w.heap.size, 0, none⟩), .int .u64 130]) (w.alloc (.cells #[.int .i64 n] 35)) := by kernel_rfl
theorem vo98 (o : ByteArray) (n : Int) (e : Value) (w : World) : (Extern.ReflectliteValue.unpack (.iface 98 (.agg #[.string o, .int .i64 n, e]))).run Tryz.prog w = .ok (.agg #[(.pointer (some ⟨1, 98, none⟩)), .pointer (some ⟨w.heap.size, 0, none⟩), .int .u64 153]) (w.alloc (.cells #[.string o, .int .i64 n, e] 98)) := by kernel_rfl
theorem vt113_150 (a : Addr) (w : World) : ((Extern.ReflectliteValue.methodAny (Extern.ReflectliteValue.valueError "reflectlite.Value.Type" 0) (fun t _ _ _ => Extern.ReflectliteType.toType t)) #[.agg #[(.pointer (some ⟨1, 113, none⟩)), .pointer (some a), .int .u64 150]]).run Tryz.prog w = .ok (.iface 143 (.agg #[(.pointer (some ⟨1, 113, none⟩))])) w := by kernel_rfl
theorem vt114_150 (a : Addr) (w : World) : ((Extern.ReflectliteValue.methodAny (Extern.ReflectliteValue.valueError "reflectlite.Value.Type" 0) (fun t _ _ _ => Extern.ReflectliteType.toType t)) #[.agg #[(.pointer (some ⟨1, 114, none⟩)), .pointer (some a), .int .u64 150]]).run Tryz.prog w = .ok (.iface 143 (.agg #[(.pointer (some ⟨1, 114, none⟩))])) w := by kernel_rfl
theorem xt102 : ExtOk Tryz.prog 102 (Extern.ReflectliteType.abiMethod fun t => do pure (.int .u8 (← Extern.Rtype.kind t))) := fun args w => run_callFunc_extern (e := (Extern.ReflectliteType.abiMethod fun t => do pure (.int .u8 (← Extern.Rtype.kind t)))) Tryz.func102 (by kernel_rfl) (by kernel_rfl) (by kernel_rfl) (by kernel_rfl) args w
theorem xt113 : ExtOk Tryz.prog 113 (Extern.ReflectliteType.relation "AssignableTo" Extern.ReflectliteType.assignableTo) := fun args w => run_callFunc_extern (e := (Extern.ReflectliteType.relation "AssignableTo" Extern.ReflectliteType.assignableTo)) Tryz.func113 (by kernel_rfl) (by kernel_rfl) (by kernel_rfl) (by kernel_rfl) args w
theorem xt114 : ExtOk Tryz.prog 114 (Extern.ReflectliteType.method fun t => do Extern.Rtype.noPackHeld "Comparable" t; pure (.bool (← typeInfo t).comparable)) := fun args w => run_callFunc_extern (e := (Extern.ReflectliteType.method fun t => do Extern.Rtype.noPackHeld "Comparable" t; pure (.bool (← typeInfo t).comparable))) Tryz.func114 (by kernel_rfl) (by kernel_rfl) (by kernel_rfl) (by kernel_rfl) args w
theorem xt115 : ExtOk Tryz.prog 115 (Extern.ReflectliteType.method Extern.ReflectliteType.elem) := fun args w => run_callFunc_extern (e := (Extern.ReflectliteType.method Extern.ReflectliteType.elem)) Tryz.func115 (by kernel_rfl) (by kernel_rfl) (by kernel_rfl) (by kernel_rfl) args w
theorem xt116 : ExtOk Tryz.prog 116 (Extern.ReflectliteType.relation "Implements" Extern.ReflectliteType.implements_) := fun args w => run_callFunc_extern (e := (Extern.ReflectliteType.relation "Implements" Extern.ReflectliteType.implements_)) Tryz.func116 (by kernel_rfl) (by kernel_rfl) (by kernel_rfl) (by kernel_rfl) args w
theorem xt71 : ExtOk Tryz.prog 71 Extern.ReflectliteType.typeOf := fun args w => run_callFunc_extern (e := Extern.ReflectliteType.typeOf) Tryz.func71 (by kernel_rfl) (by kernel_rfl) (by kernel_rfl) (by kernel_rfl) args w
theorem xt80 : ExtOk Tryz.prog 80 (fun args => Extern.ReflectliteValue.unpack (args.getD 0 (.tuple #[]))) := fun args w => run_callFunc_extern (e := (fun args => Extern.ReflectliteValue.unpack (args.getD 0 (.tuple #[])))) Tryz.func80 (by kernel_rfl) (by kernel_rfl) (by kernel_rfl) (by kernel_rfl) args w
theorem xt81 : ExtOk Tryz.prog 81 (Extern.ReflectliteValue.methodAny (Extern.ReflectliteValue.valueError "reflectlite.Value.Type" 0) (fun t _ _ _ => Extern.ReflectliteType.toType t)) := fun args w => run_callFunc_extern (e := (Extern.ReflectliteValue.methodAny (Extern.ReflectliteValue.valueError "reflectlite.Value.Type" 0) (fun t _ _ _ => Extern.ReflectliteType.toType t))) Tryz.func81 (by kernel_rfl) (by kernel_rfl) (by kernel_rfl) (by kernel_rfl) args w
theorem xt82 : ExtOk Tryz.prog 82 (Extern.ReflectliteValue.method (Extern.ReflectliteValue.valueError "reflectlite.Value.IsNil" 0) Extern.ReflectliteValue.isNil) := fun args w => run_callFunc_extern (e := (Extern.ReflectliteValue.method (Extern.ReflectliteValue.valueError "reflectlite.Value.IsNil" 0) Extern.ReflectliteValue.isNil)) Tryz.func82 (by kernel_rfl) (by kernel_rfl) (by kernel_rfl) (by kernel_rfl) args w
theorem xt86 : ExtOk Tryz.prog 86 (Extern.ReflectliteValue.method (Extern.ReflectliteValue.valueError "reflectlite.Value.Elem" 0) Extern.ReflectliteValue.elem) := fun args w => run_callFunc_extern (e := (Extern.ReflectliteValue.method (Extern.ReflectliteValue.valueError "reflectlite.Value.Elem" 0) Extern.ReflectliteValue.elem)) Tryz.func86 (by kernel_rfl) (by kernel_rfl) (by kernel_rfl) (by kernel_rfl) args w
theorem xt87 : ExtOk Tryz.prog 87 Extern.ReflectliteValue.set := fun args w => run_callFunc_extern (e := Extern.ReflectliteValue.set) Tryz.func87 (by kernel_rfl) (by kernel_rfl) (by kernel_rfl) (by kernel_rfl) args w
theorem ze100 : (Tryz.prog.info? 100).map (·.zero) = some (some (.agg #[(.slice none 0 0), (.int .i64 (0 : Int)), (.nilIface)])) := by kernel_rfl
theorem ze101 : (Tryz.prog.info? 101).map (·.zero) = some (some (.int .u64 (0 : Int))) := by kernel_rfl
theorem ze106 : (Tryz.prog.info? 106).map (·.zero) = some (some (.agg #[(.int .u64 (0 : Int)), (.bool false), (.slice none 0 0), (.slice none 0 0)])) := by kernel_rfl
theorem ze110 : (Tryz.prog.info? 110).map (·.zero) = some (some (.agg #[(.int .i64 (0 : Int)), (.int .i64 (0 : Int)), (.int .i64 (0 : Int))])) := by kernel_rfl
theorem ze135 : (Tryz.prog.info? 135).map (·.zero) = some (some (.agg #[(.pointer none), (.pointer none), (.int .u64 (0 : Int))])) := by kernel_rfl
theorem ze22 : (Tryz.prog.info? 22).map (·.zero) = some (some (.slice none 0 0)) := by kernel_rfl
theorem ze26 : (Tryz.prog.info? 26).map (·.zero) = some (some (.agg #[(.int .i64 (0 : Int)), (.int .i64 (0 : Int)), (.int .i64 (0 : Int)), (.bool false), (.bool false)])) := by kernel_rfl
theorem ze28 : (Tryz.prog.info? 28).map (·.zero) = some (some (.agg #[(.int .i64 (0 : Int)), (.int .i64 (0 : Int)), (.int .i64 (0 : Int)), (.string (⟨#[]⟩ : ByteArray)), (.string (⟨#[]⟩ : ByteArray)), (.string (⟨#[]⟩ : ByteArray)), (.bool false), (.int .i64 (0 : Int)), (.int .i64 (0 : Int)), (.int .i64 (0 : Int)), (.slice none 0 0), (.int .i64 (0 : Int)), (.int .i64 (0 : Int)), (.string (⟨#[]⟩ : ByteArray)), (.int .i64 (0 : Int)), (.int .i64 (0 : Int)), (.int .i64 (0 : Int)), (.bool false), (.bool false)])) := by kernel_rfl
theorem ze3 : (Tryz.prog.info? 3).map (·.zero) = some (some (.int .i64 (0 : Int))) := by kernel_rfl
theorem ze34 : (Tryz.prog.info? 34).map (·.zero) = some (some (.agg #[(.int .i64 (0 : Int)), (.slice none 0 0)])) := by kernel_rfl
theorem ze35 : (Tryz.prog.info? 35).map (·.zero) = some (some (.int .i64 (0 : Int))) := by kernel_rfl
theorem ze37 : (Tryz.prog.info? 37).map (·.zero) = some (some (.agg #[(.string (⟨#[]⟩ : ByteArray)), (.int .i64 (0 : Int)), (.int .i64 (0 : Int))])) := by kernel_rfl
theorem ze41 : (Tryz.prog.info? 41).map (·.zero) = some (some (.agg #[(.bool false), (.bool false), (.bool false)])) := by kernel_rfl
theorem ze43 : (Tryz.prog.info? 43).map (·.zero) = some (some (.agg #[(.int .i64 (0 : Int)), (.int .i64 (0 : Int)), (.int .i64 (0 : Int)), (.int .i64 (0 : Int)), (.bool false), (.bool false), (.bool false)])) := by kernel_rfl
theorem ze60 : (Tryz.prog.info? 60).map (·.zero) = some (some .nilFunc) := by kernel_rfl
theorem ze67 : (Tryz.prog.info? 67).map (·.zero) = some (some (.agg #[(.int .i64 (0 : Int)), (.int .i64 (0 : Int)), (.string (⟨#[]⟩ : ByteArray)), (.int .i64 (0 : Int))])) := by kernel_rfl
theorem ze69 : (Tryz.prog.info? 69).map (·.zero) = some (some (.agg #[(.slice none 0 0), (.int .i64 (0 : Int)), (.int .i64 (0 : Int)), (.string (⟨#[]⟩ : ByteArray)), (.int .i64 (0 : Int))])) := by kernel_rfl
theorem ze87 : (Tryz.prog.info? 87).map (·.zero) = some (some (.agg #[(.int .i64 (0 : Int)), (.int .i64 (0 : Int)), (.int .i64 (0 : Int)), (.int .i64 (0 : Int)), (.int .i64 (0 : Int)), (.int .i64 (0 : Int)), (.int .i64 (0 : Int)), (.int .i64 (0 : Int))])) := by kernel_rfl
theorem ze89 : (Tryz.prog.info? 89).map (·.zero) = some (some (.agg #[(.string (⟨#[]⟩ : ByteArray)), (.string (⟨#[]⟩ : ByteArray)), (.string (⟨#[]⟩ : ByteArray)), (.string (⟨#[]⟩ : ByteArray))])) := by kernel_rfl
theorem ze98 : (Tryz.prog.info? 98).map (·.zero) = some (some (.agg #[(.string (⟨#[]⟩ : ByteArray)), (.int .i64 (0 : Int)), (.nilIface)])) := by kernel_rfl
theorem zo145 : (Tryz.prog.info? 145).map (·.zero) = some (some .nilIface) := by kernel_rfl
theorem zo148 : (Tryz.prog.info? 148).map (·.zero) = some (some .nilIface) := by kernel_rfl
theorem zo149 : (Tryz.prog.info? 149).map (·.zero) = some (some .nilIface) := by kernel_rfl
theorem mixed : Tryz.prog.follows .mixedOrders = true := by kernel_rfl

end Go.Proofs.YtjgnbbakamellaaGreatDoor.G
