/- Closed facts on the program's types. Printed by a program of the session (gen). -/
import Derived.Test.YtjiffdgidodebaaDoorCT
import Derived.Test.YtjiffdgidodebaaDoorProg
set_option linter.unusedVariables false
set_option linter.unusedSimpArgs false
set_option maxHeartbeats 8000000
set_option maxRecDepth 100000
namespace Go.Proofs.YtjiffdgidodebaaDoor.G
open Go Go.KK

def Env (M : IM) : Prop := M.cell ⟨0, 0, none⟩ = some (.iface 163 (.agg #[(.pointer (some ⟨1, 28, none⟩))]))
theorem Env.mono {M M' : IM} (h : Env M) (hle : M.le M') : Env M' := hle.cell h
theorem ag106 : aggB Tryd.prog 106 = true := by kernel_rfl
theorem ag124 : aggB Tryd.prog 124 = true := by kernel_rfl
theorem ag176 : aggB Tryd.prog 176 = true := by kernel_rfl
theorem ag178 : aggB Tryd.prog 178 = true := by kernel_rfl
theorem ag66 : aggB Tryd.prog 66 = true := by kernel_rfl
theorem cc47 : Tryd.prog.concrete 47 = true := by kernel_rfl
theorem cc89 : Tryd.prog.concrete 89 = true := by kernel_rfl
theorem cc92 : Tryd.prog.concrete 92 = true := by kernel_rfl
theorem cm47 : (Tryd.prog.info? 47).map (·.comparable) = some true := by kernel_rfl
theorem co100 : callOk Tryd.prog 100 = true := by kernel_rfl
theorem co101 : callOk Tryd.prog 101 = true := by kernel_rfl
theorem co102 : callOk Tryd.prog 102 = true := by kernel_rfl
theorem co103 : callOk Tryd.prog 103 = true := by kernel_rfl
theorem co104 : callOk Tryd.prog 104 = true := by kernel_rfl
theorem co105 : callOk Tryd.prog 105 = true := by kernel_rfl
theorem co106 : callOk Tryd.prog 106 = true := by kernel_rfl
theorem co107 : callOk Tryd.prog 107 = true := by kernel_rfl
theorem co108 : callOk Tryd.prog 108 = true := by kernel_rfl
theorem co109 : callOk Tryd.prog 109 = true := by kernel_rfl
theorem co110 : callOk Tryd.prog 110 = true := by kernel_rfl
theorem co111 : callOk Tryd.prog 111 = true := by kernel_rfl
theorem co112 : callOk Tryd.prog 112 = true := by kernel_rfl
theorem co113 : callOk Tryd.prog 113 = true := by kernel_rfl
theorem co115 : callOk Tryd.prog 115 = true := by kernel_rfl
theorem co116 : callOk Tryd.prog 116 = true := by kernel_rfl
theorem co117 : callOk Tryd.prog 117 = true := by kernel_rfl
theorem co118 : callOk Tryd.prog 118 = true := by kernel_rfl
theorem co119 : callOk Tryd.prog 119 = true := by kernel_rfl
theorem co139 : callOk Tryd.prog 139 = true := by kernel_rfl
theorem co19 : callOk Tryd.prog 19 = true := by kernel_rfl
theorem co22 : callOk Tryd.prog 22 = true := by kernel_rfl
theorem co27 : callOk Tryd.prog 27 = true := by kernel_rfl
theorem co28 : callOk Tryd.prog 28 = true := by kernel_rfl
theorem co29 : callOk Tryd.prog 29 = true := by kernel_rfl
theorem co30 : callOk Tryd.prog 30 = true := by kernel_rfl
theorem co31 : callOk Tryd.prog 31 = true := by kernel_rfl
theorem co32 : callOk Tryd.prog 32 = true := by kernel_rfl
theorem co35 : callOk Tryd.prog 35 = true := by kernel_rfl
theorem co36 : callOk Tryd.prog 36 = true := by kernel_rfl
theorem co37 : callOk Tryd.prog 37 = true := by kernel_rfl
theorem co39 : callOk Tryd.prog 39 = true := by kernel_rfl
theorem co44 : callOk Tryd.prog 44 = true := by kernel_rfl
theorem co47 : callOk Tryd.prog 47 = true := by kernel_rfl
theorem co48 : callOk Tryd.prog 48 = true := by kernel_rfl
theorem co49 : callOk Tryd.prog 49 = true := by kernel_rfl
theorem co50 : callOk Tryd.prog 50 = true := by kernel_rfl
theorem co51 : callOk Tryd.prog 51 = true := by kernel_rfl
theorem co52 : callOk Tryd.prog 52 = true := by kernel_rfl
theorem co53 : callOk Tryd.prog 53 = true := by kernel_rfl
theorem co54 : callOk Tryd.prog 54 = true := by kernel_rfl
theorem co55 : callOk Tryd.prog 55 = true := by kernel_rfl
theorem co56 : callOk Tryd.prog 56 = true := by kernel_rfl
theorem co57 : callOk Tryd.prog 57 = true := by kernel_rfl
theorem co58 : callOk Tryd.prog 58 = true := by kernel_rfl
theorem co60 : callOk Tryd.prog 60 = true := by kernel_rfl
theorem co61 : callOk Tryd.prog 61 = true := by kernel_rfl
theorem co62 : callOk Tryd.prog 62 = true := by kernel_rfl
theorem co68 : callOk Tryd.prog 68 = true := by kernel_rfl
theorem co74 : callOk Tryd.prog 74 = true := by kernel_rfl
theorem co75 : callOk Tryd.prog 75 = true := by kernel_rfl
theorem co76 : callOk Tryd.prog 76 = true := by kernel_rfl
theorem co77 : callOk Tryd.prog 77 = true := by kernel_rfl
theorem co78 : callOk Tryd.prog 78 = true := by kernel_rfl
theorem co79 : callOk Tryd.prog 79 = true := by kernel_rfl
theorem co80 : callOk Tryd.prog 80 = true := by kernel_rfl
theorem co81 : callOk Tryd.prog 81 = true := by kernel_rfl
theorem co82 : callOk Tryd.prog 82 = true := by kernel_rfl
theorem co83 : callOk Tryd.prog 83 = true := by kernel_rfl
theorem co84 : callOk Tryd.prog 84 = true := by kernel_rfl
theorem co85 : callOk Tryd.prog 85 = true := by kernel_rfl
theorem co86 : callOk Tryd.prog 86 = true := by kernel_rfl
theorem co87 : callOk Tryd.prog 87 = true := by kernel_rfl
theorem co88 : callOk Tryd.prog 88 = true := by kernel_rfl
theorem co90 : callOk Tryd.prog 90 = true := by kernel_rfl
theorem co92 : callOk Tryd.prog 92 = true := by kernel_rfl
theorem co98 : callOk Tryd.prog 98 = true := by kernel_rfl
theorem co99 : callOk Tryd.prog 99 = true := by kernel_rfl
theorem da47 (w : World) : (Extern.Rtype.directlyAssignable 47 47).run Tryd.prog w = .ok true w := by kernel_rfl
theorem eg176 : Tryd.prog.eqGuardType Tryd.prog.depth 176 = false := by kernel_rfl
theorem eg178 : Tryd.prog.eqGuardType Tryd.prog.depth 178 = false := by kernel_rfl
theorem el92 (w : World) : (Extern.Rtype.elem? 92).run Tryd.prog w = .ok (some 47) w := by kernel_rfl
theorem fo106_0 : fldOff Tryd.prog 106 0 = some 0 := by kernel_rfl
theorem fo106_1 : fldOff Tryd.prog 106 1 = some 1 := by kernel_rfl
theorem fo106_10 : fldOff Tryd.prog 106 10 = some 10 := by kernel_rfl
theorem fo106_11 : fldOff Tryd.prog 106 11 = some 11 := by kernel_rfl
theorem fo106_12 : fldOff Tryd.prog 106 12 = some 12 := by kernel_rfl
theorem fo106_13 : fldOff Tryd.prog 106 13 = some 13 := by kernel_rfl
theorem fo106_14 : fldOff Tryd.prog 106 14 = some 14 := by kernel_rfl
theorem fo106_15 : fldOff Tryd.prog 106 15 = some 15 := by kernel_rfl
theorem fo106_16 : fldOff Tryd.prog 106 16 = some 16 := by kernel_rfl
theorem fo106_17 : fldOff Tryd.prog 106 17 = some 17 := by kernel_rfl
theorem fo106_2 : fldOff Tryd.prog 106 2 = some 2 := by kernel_rfl
theorem fo106_3 : fldOff Tryd.prog 106 3 = some 3 := by kernel_rfl
theorem fo106_4 : fldOff Tryd.prog 106 4 = some 4 := by kernel_rfl
theorem fo106_5 : fldOff Tryd.prog 106 5 = some 5 := by kernel_rfl
theorem fo106_6 : fldOff Tryd.prog 106 6 = some 6 := by kernel_rfl
theorem fo106_7 : fldOff Tryd.prog 106 7 = some 7 := by kernel_rfl
theorem fo106_8 : fldOff Tryd.prog 106 8 = some 8 := by kernel_rfl
theorem fo106_9 : fldOff Tryd.prog 106 9 = some 9 := by kernel_rfl
theorem fo151_0 : fldOff Tryd.prog 151 0 = some 0 := by kernel_rfl
theorem fo151_1 : fldOff Tryd.prog 151 1 = some 1 := by kernel_rfl
theorem fo151_2 : fldOff Tryd.prog 151 2 = some 2 := by kernel_rfl
theorem fo66_0 : fldOff Tryd.prog 66 0 = some 0 := by kernel_rfl
theorem fo66_1 : fldOff Tryd.prog 66 1 = some 1 := by kernel_rfl
theorem fo66_2 : fldOff Tryd.prog 66 2 = some 2 := by kernel_rfl
theorem fo89_2 : fldOff Tryd.prog 89 2 = some 2 := by kernel_rfl
theorem fp106 : fldPlace Tryd.prog 106 = some [(0, 1), (1, 1), (2, 1), (3, 1), (4, 1), (5, 1), (6, 1), (7, 1), (8, 1), (9, 1), (10, 1), (11, 1), (12, 1), (13, 1), (14, 1), (15, 1), (16, 1), (17, 1)] := by kernel_rfl
theorem fp151 : fldPlace Tryd.prog 151 = some [(0, 1), (1, 1), (2, 1)] := by kernel_rfl
theorem fp66 : fldPlace Tryd.prog 66 = some [(0, 1), (1, 1), (2, 1)] := by kernel_rfl
theorem fp89 : fldPlace Tryd.prog 89 = some [(0, 1), (1, 1), (2, 1)] := by kernel_rfl
theorem ha89_170 (v : Value) (xT : TypeId) (w : World) : (Instr.typeAssert (.iface 89 v) xT 170 true).run Tryd.prog w = .ok (.tuple #[.iface 89 v, .bool true]) w := run_typeAssert_hasB Tryd.underlying170 (by kernel_rfl) v xT w
theorem in106 : (Tryd.prog.info? 106).map (fun i => (i.size, i.bytes, i.zero)) = some (18, 240, some (.agg #[(.int .i64 (0 : Int)), (.int .i64 (0 : Int)), (.int .i64 (0 : Int)), (.int .i64 (0 : Int)), (.int .i64 (0 : Int)), (.int .i64 (0 : Int)), (.int .i64 (0 : Int)), (.int .i64 (0 : Int)), (.int .i64 (0 : Int)), (.bool false), (.string (⟨#[]⟩ : ByteArray)), (.string (⟨#[]⟩ : ByteArray)), (.string (⟨#[]⟩ : ByteArray)), (.string (⟨#[]⟩ : ByteArray)), (.slice none 0 0), (.slice none 0 0), (.slice none 0 0), (.slice none 0 0)])) := by kernel_rfl
theorem in3 : (Tryd.prog.info? 3).map (fun i => (i.size, i.bytes, i.zero)) = some (1, 8, some (.int .i64 (0 : Int))) := by kernel_rfl
theorem in5 : (Tryd.prog.info? 5).map (fun i => (i.size, i.bytes, i.zero)) = some (1, 1, some (.int .u8 (0 : Int))) := by kernel_rfl
theorem in66 : (Tryd.prog.info? 66).map (fun i => (i.size, i.bytes, i.zero)) = some (3, 40, some (.agg #[(.int .i64 (0 : Int)), (.int .i64 (0 : Int)), (.slice none 0 0)])) := by kernel_rfl
theorem iz106 : (Tryd.prog.info? 106).map (fun i => (i.size, i.zero)) = some (18, some (.agg #[(.int .i64 (0 : Int)), (.int .i64 (0 : Int)), (.int .i64 (0 : Int)), (.int .i64 (0 : Int)), (.int .i64 (0 : Int)), (.int .i64 (0 : Int)), (.int .i64 (0 : Int)), (.int .i64 (0 : Int)), (.int .i64 (0 : Int)), (.bool false), (.string (⟨#[]⟩ : ByteArray)), (.string (⟨#[]⟩ : ByteArray)), (.string (⟨#[]⟩ : ByteArray)), (.string (⟨#[]⟩ : ByteArray)), (.slice none 0 0), (.slice none 0 0), (.slice none 0 0), (.slice none 0 0)])) := by kernel_rfl
theorem iz3 : (Tryd.prog.info? 3).map (fun i => (i.size, i.zero)) = some (1, some (.int .i64 (0 : Int))) := by kernel_rfl
theorem iz5 : (Tryd.prog.info? 5).map (fun i => (i.size, i.zero)) = some (1, some (.int .u8 (0 : Int))) := by kernel_rfl
theorem iz66 : (Tryd.prog.info? 66).map (fun i => (i.size, i.zero)) = some (3, some (.agg #[(.int .i64 (0 : Int)), (.int .i64 (0 : Int)), (.slice none 0 0)])) := by kernel_rfl
theorem la0_167 (v : Value) (xT : TypeId) (w : World) : (Instr.typeAssert (.iface 0 v) xT 167 true).run Tryd.prog w = .ok (.tuple #[.nilIface, .bool false]) w := run_typeAssert_lacksB Tryd.underlying167 (by kernel_rfl) (by kernel_rfl) v xT w
theorem la0_170 (v : Value) (xT : TypeId) (w : World) : (Instr.typeAssert (.iface 0 v) xT 170 true).run Tryd.prog w = .ok (.tuple #[.nilIface, .bool false]) w := run_typeAssert_lacksB Tryd.underlying170 (by kernel_rfl) (by kernel_rfl) v xT w
theorem la0_171 (v : Value) (xT : TypeId) (w : World) : (Instr.typeAssert (.iface 0 v) xT 171 true).run Tryd.prog w = .ok (.tuple #[.nilIface, .bool false]) w := run_typeAssert_lacksB Tryd.underlying171 (by kernel_rfl) (by kernel_rfl) v xT w
theorem la0_188 (v : Value) (xT : TypeId) (w : World) : (Instr.typeAssert (.iface 0 v) xT 188 true).run Tryd.prog w = .ok (.tuple #[.nilIface, .bool false]) w := run_typeAssert_lacksB Tryd.underlying188 (by kernel_rfl) (by kernel_rfl) v xT w
theorem la47_170 (v : Value) (xT : TypeId) (w : World) : (Instr.typeAssert (.iface 47 v) xT 170 true).run Tryd.prog w = .ok (.tuple #[.nilIface, .bool false]) w := run_typeAssert_lacksB Tryd.underlying170 (by kernel_rfl) (by kernel_rfl) v xT w
theorem la47_171 (v : Value) (xT : TypeId) (w : World) : (Instr.typeAssert (.iface 47 v) xT 171 true).run Tryd.prog w = .ok (.tuple #[.nilIface, .bool false]) w := run_typeAssert_lacksB Tryd.underlying171 (by kernel_rfl) (by kernel_rfl) v xT w
theorem la47_188 (v : Value) (xT : TypeId) (w : World) : (Instr.typeAssert (.iface 47 v) xT 188 true).run Tryd.prog w = .ok (.tuple #[.nilIface, .bool false]) w := run_typeAssert_lacksB Tryd.underlying188 (by kernel_rfl) (by kernel_rfl) v xT w
theorem la89_167 (v : Value) (xT : TypeId) (w : World) : (Instr.typeAssert (.iface 89 v) xT 167 true).run Tryd.prog w = .ok (.tuple #[.nilIface, .bool false]) w := run_typeAssert_lacksB Tryd.underlying167 (by kernel_rfl) (by kernel_rfl) v xT w
theorem la89_188 (v : Value) (xT : TypeId) (w : World) : (Instr.typeAssert (.iface 89 v) xT 188 true).run Tryd.prog w = .ok (.tuple #[.nilIface, .bool false]) w := run_typeAssert_lacksB Tryd.underlying188 (by kernel_rfl) (by kernel_rfl) v xT w
theorem me89_Unwrap (v : Value) (w : World) : (method (mdepth Tryd.prog) 89 v "Unwrap").run Tryd.prog w = .ok (139, v) w := by kernel_rfl
theorem mk47 (p : Addr) (w : World) : (Extern.ReflectliteValue.mk 47 p Extern.ReflectliteValue.flagAddr).run Tryd.prog w = .ok (.agg #[(.pointer (some ⟨1, 47, none⟩)), .pointer (some p), .int .u64 386]) w := by kernel_rfl
theorem mm_AssignableTo (h : Value) (w : World) : (method (mdepth Tryd.prog) 163 (.agg #[h]) "AssignableTo").run Tryd.prog w = .ok (144, .agg #[h]) w := by kernel_rfl
theorem mm_Comparable (h : Value) (w : World) : (method (mdepth Tryd.prog) 163 (.agg #[h]) "Comparable").run Tryd.prog w = .ok (145, .agg #[h]) w := by kernel_rfl
theorem mm_Elem (h : Value) (w : World) : (method (mdepth Tryd.prog) 163 (.agg #[h]) "Elem").run Tryd.prog w = .ok (146, .agg #[h]) w := by kernel_rfl
theorem mm_Implements (h : Value) (w : World) : (method (mdepth Tryd.prog) 163 (.agg #[h]) "Implements").run Tryd.prog w = .ok (147, .agg #[h]) w := by kernel_rfl
theorem mm_Kind (h : Value) (w : World) : (method (mdepth Tryd.prog) 163 (.agg #[h]) "Kind").run Tryd.prog w = .ok (134, h) w := by kernel_rfl
theorem mr_AssignableTo_0_47 (w : World) : ((Extern.ReflectliteType.relation "AssignableTo" Extern.ReflectliteType.assignableTo) #[.agg #[(.pointer (some ⟨1, 0, none⟩))], (.iface 163 (.agg #[.pointer (some ⟨1, 47, none⟩)]))]).run Tryd.prog w = .ok (.bool false) w := by kernel_rfl
theorem mr_AssignableTo_47_47 (w : World) : ((Extern.ReflectliteType.relation "AssignableTo" Extern.ReflectliteType.assignableTo) #[.agg #[(.pointer (some ⟨1, 47, none⟩))], (.iface 163 (.agg #[.pointer (some ⟨1, 47, none⟩)]))]).run Tryd.prog w = .ok (.bool true) w := by kernel_rfl
theorem mr_AssignableTo_89_47 (w : World) : ((Extern.ReflectliteType.relation "AssignableTo" Extern.ReflectliteType.assignableTo) #[.agg #[(.pointer (some ⟨1, 89, none⟩))], (.iface 163 (.agg #[.pointer (some ⟨1, 47, none⟩)]))]).run Tryd.prog w = .ok (.bool false) w := by kernel_rfl
theorem mr_Comparable_47 (w : World) : ((Extern.ReflectliteType.method fun t => do Extern.Rtype.noPackHeld "Comparable" t; pure (.bool (← typeInfo t).comparable)) #[.agg #[(.pointer (some ⟨1, 47, none⟩))]]).run Tryd.prog w = .ok (.bool true) w := by kernel_rfl
theorem mr_Elem_92 (w : World) : ((Extern.ReflectliteType.method Extern.ReflectliteType.elem) #[.agg #[(.pointer (some ⟨1, 92, none⟩))]]).run Tryd.prog w = .ok (.iface 163 (.agg #[.pointer (some ⟨1, 47, none⟩)])) w := by kernel_rfl
theorem mr_Implements_47_28 (w : World) : ((Extern.ReflectliteType.relation "Implements" Extern.ReflectliteType.implements_) #[.agg #[(.pointer (some ⟨1, 47, none⟩))], (.iface 163 (.agg #[.pointer (some ⟨1, 28, none⟩)]))]).run Tryd.prog w = .ok (.bool true) w := by kernel_rfl
theorem mr_Kind_47 (w : World) : ((Extern.ReflectliteType.abiMethod fun t => do pure (.int .u8 (← Extern.Rtype.kind t))) #[(.pointer (some ⟨1, 47, none⟩))]).run Tryd.prog w = .ok (.int .u8 (2 : Int)) w := by kernel_rfl
theorem mr_Kind_92 (w : World) : ((Extern.ReflectliteType.abiMethod fun t => do pure (.int .u8 (← Extern.Rtype.kind t))) #[(.pointer (some ⟨1, 92, none⟩))]).run Tryd.prog w = .ok (.int .u8 (22 : Int)) w := by kernel_rfl
theorem pl112 : plainT Tryd.prog 112 = true := by kernel_rfl
theorem pl127 : plainT Tryd.prog 127 = true := by kernel_rfl
theorem pl26 : plainT Tryd.prog 26 = true := by kernel_rfl
theorem pl28 : plainT Tryd.prog 28 = true := by kernel_rfl
theorem pl3 : plainT Tryd.prog 3 = true := by kernel_rfl
theorem pl4 : plainT Tryd.prog 4 = true := by kernel_rfl
theorem pl42 : plainT Tryd.prog 42 = true := by kernel_rfl
theorem pl47 : plainT Tryd.prog 47 = true := by kernel_rfl
theorem pl5 : plainT Tryd.prog 5 = true := by kernel_rfl
theorem pl64 : plainT Tryd.prog 64 = true := by kernel_rfl
theorem pl9 : plainT Tryd.prog 9 = true := by kernel_rfl
theorem pl92 : plainT Tryd.prog 92 = true := by kernel_rfl
theorem pl95 : plainT Tryd.prog 95 = true := by kernel_rfl
theorem pp47_130 (a : Addr) (w : World) : (Extern.ReflectliteValue.parts (.agg #[(.pointer (some ⟨1, 47, none⟩)), .pointer (some a), .int .u64 130])).run Tryd.prog w = .ok (some (47, a, 130)) w := by kernel_rfl
theorem pp47_386 (a : Addr) (w : World) : (Extern.ReflectliteValue.parts (.agg #[(.pointer (some ⟨1, 47, none⟩)), .pointer (some a), .int .u64 386])).run Tryd.prog w = .ok (some (47, a, 386)) w := by kernel_rfl
theorem pp92_150 (a : Addr) (w : World) : (Extern.ReflectliteValue.parts (.agg #[(.pointer (some ⟨1, 92, none⟩)), .pointer (some a), .int .u64 150])).run Tryd.prog w = .ok (some (92, a, 150)) w := by kernel_rfl
theorem sz106 : (Tryd.prog.info? 106).map (·.size) = some 18 := by kernel_rfl
theorem sz124 : (Tryd.prog.info? 124).map (·.size) = some 3 := by kernel_rfl
theorem sz176 : (Tryd.prog.info? 176).map (·.size) = some 9 := by kernel_rfl
theorem sz178 : (Tryd.prog.info? 178).map (·.size) = some 4 := by kernel_rfl
theorem sz26 : (Tryd.prog.info? 26).map (·.size) = some 1 := by kernel_rfl
theorem sz28 : (Tryd.prog.info? 28).map (·.size) = some 1 := by kernel_rfl
theorem sz3 : (Tryd.prog.info? 3).map (·.size) = some 1 := by kernel_rfl
theorem sz4 : (Tryd.prog.info? 4).map (·.size) = some 1 := by kernel_rfl
theorem sz42 : (Tryd.prog.info? 42).map (·.size) = some 1 := by kernel_rfl
theorem sz47 : (Tryd.prog.info? 47).map (·.size) = some 1 := by kernel_rfl
theorem sz5 : (Tryd.prog.info? 5).map (·.size) = some 1 := by kernel_rfl
theorem sz64 : (Tryd.prog.info? 64).map (·.size) = some 1 := by kernel_rfl
theorem sz66 : (Tryd.prog.info? 66).map (·.size) = some 3 := by kernel_rfl
theorem sz9 : (Tryd.prog.info? 9).map (·.size) = some 1 := by kernel_rfl
theorem sz95 : (Tryd.prog.info? 95).map (·.size) = some 1 := by kernel_rfl
theorem ty0 (v : Value) (w : World) : (Extern.ReflectliteType.typeOf #[.iface 0 v]).run Tryd.prog w = .ok (.iface 163 (.agg #[(.pointer (some ⟨1, 0, none⟩))])) w := by kernel_rfl
theorem ty47 (v : Value) (w : World) : (Extern.ReflectliteType.typeOf #[.iface 47 v]).run Tryd.prog w = .ok (.iface 163 (.agg #[(.pointer (some ⟨1, 47, none⟩))])) w := by kernel_rfl
theorem ty89 (v : Value) (w : World) : (Extern.ReflectliteType.typeOf #[.iface 89 v]).run Tryd.prog w = .ok (.iface 163 (.agg #[(.pointer (some ⟨1, 89, none⟩))])) w := by kernel_rfl
theorem tyNil (w : World) : (Extern.ReflectliteType.typeOf #[.nilIface]).run Tryd.prog w = .ok .nilIface w := by kernel_rfl
theorem us3 : (Tryd.prog.underlying 3).isSome = true := by kernel_rfl
theorem us42 : (Tryd.prog.underlying 42).isSome = true := by kernel_rfl
theorem us5 : (Tryd.prog.underlying 5).isSome = true := by kernel_rfl
theorem vo47 (n : Int) (w : World) : (Extern.ReflectliteValue.unpack (.iface 47 (.int .i64 n))).run Tryd.prog w = .ok (.agg #[(.pointer (some ⟨1, 47, none⟩)), .pointer (some ⟨w.heap.size, 0, none⟩), .int .u64 130]) (w.alloc (.cells #[.int .i64 n] 47)) := by kernel_rfl
theorem vo92 (p : Addr) (w : World) : (Extern.ReflectliteValue.unpack (.iface 92 (.pointer (some p)))).run Tryd.prog w = .ok (.agg #[(.pointer (some ⟨1, 92, none⟩)), .pointer (some ⟨w.heap.size, 0, none⟩), .int .u64 150]) (w.alloc (.cells #[.pointer (some p)] 92)) := by kernel_rfl
theorem vt92_150 (a : Addr) (w : World) : ((Extern.ReflectliteValue.methodAny (Extern.ReflectliteValue.valueError "reflectlite.Value.Type" 0) (fun t _ _ _ => Extern.ReflectliteType.toType t)) #[.agg #[(.pointer (some ⟨1, 92, none⟩)), .pointer (some a), .int .u64 150]]).run Tryd.prog w = .ok (.iface 163 (.agg #[(.pointer (some ⟨1, 92, none⟩))])) w := by kernel_rfl
theorem xt134 : ExtOk Tryd.prog 134 (Extern.ReflectliteType.abiMethod fun t => do pure (.int .u8 (← Extern.Rtype.kind t))) := fun args w => run_callFunc_extern (e := (Extern.ReflectliteType.abiMethod fun t => do pure (.int .u8 (← Extern.Rtype.kind t)))) Tryd.func134 (by kernel_rfl) (by kernel_rfl) (by kernel_rfl) (by kernel_rfl) args w
theorem xt144 : ExtOk Tryd.prog 144 (Extern.ReflectliteType.relation "AssignableTo" Extern.ReflectliteType.assignableTo) := fun args w => run_callFunc_extern (e := (Extern.ReflectliteType.relation "AssignableTo" Extern.ReflectliteType.assignableTo)) Tryd.func144 (by kernel_rfl) (by kernel_rfl) (by kernel_rfl) (by kernel_rfl) args w
theorem xt145 : ExtOk Tryd.prog 145 (Extern.ReflectliteType.method fun t => do Extern.Rtype.noPackHeld "Comparable" t; pure (.bool (← typeInfo t).comparable)) := fun args w => run_callFunc_extern (e := (Extern.ReflectliteType.method fun t => do Extern.Rtype.noPackHeld "Comparable" t; pure (.bool (← typeInfo t).comparable))) Tryd.func145 (by kernel_rfl) (by kernel_rfl) (by kernel_rfl) (by kernel_rfl) args w
theorem xt146 : ExtOk Tryd.prog 146 (Extern.ReflectliteType.method Extern.ReflectliteType.elem) := fun args w => run_callFunc_extern (e := (Extern.ReflectliteType.method Extern.ReflectliteType.elem)) Tryd.func146 (by kernel_rfl) (by kernel_rfl) (by kernel_rfl) (by kernel_rfl) args w
theorem xt147 : ExtOk Tryd.prog 147 (Extern.ReflectliteType.relation "Implements" Extern.ReflectliteType.implements_) := fun args w => run_callFunc_extern (e := (Extern.ReflectliteType.relation "Implements" Extern.ReflectliteType.implements_)) Tryd.func147 (by kernel_rfl) (by kernel_rfl) (by kernel_rfl) (by kernel_rfl) args w
theorem xt65 : ExtOk Tryd.prog 65 (fun args => Extern.ReflectliteValue.unpack (args.getD 0 (.tuple #[]))) := fun args w => run_callFunc_extern (e := (fun args => Extern.ReflectliteValue.unpack (args.getD 0 (.tuple #[])))) Tryd.func65 (by kernel_rfl) (by kernel_rfl) (by kernel_rfl) (by kernel_rfl) args w
theorem xt66 : ExtOk Tryd.prog 66 (Extern.ReflectliteValue.methodAny (Extern.ReflectliteValue.valueError "reflectlite.Value.Type" 0) (fun t _ _ _ => Extern.ReflectliteType.toType t)) := fun args w => run_callFunc_extern (e := (Extern.ReflectliteValue.methodAny (Extern.ReflectliteValue.valueError "reflectlite.Value.Type" 0) (fun t _ _ _ => Extern.ReflectliteType.toType t))) Tryd.func66 (by kernel_rfl) (by kernel_rfl) (by kernel_rfl) (by kernel_rfl) args w
theorem xt67 : ExtOk Tryd.prog 67 (Extern.ReflectliteValue.method (Extern.ReflectliteValue.valueError "reflectlite.Value.IsNil" 0) Extern.ReflectliteValue.isNil) := fun args w => run_callFunc_extern (e := (Extern.ReflectliteValue.method (Extern.ReflectliteValue.valueError "reflectlite.Value.IsNil" 0) Extern.ReflectliteValue.isNil)) Tryd.func67 (by kernel_rfl) (by kernel_rfl) (by kernel_rfl) (by kernel_rfl) args w
theorem xt89 : ExtOk Tryd.prog 89 Extern.ReflectliteType.typeOf := fun args w => run_callFunc_extern (e := Extern.ReflectliteType.typeOf) Tryd.func89 (by kernel_rfl) (by kernel_rfl) (by kernel_rfl) (by kernel_rfl) args w
theorem xt95 : ExtOk Tryd.prog 95 (Extern.ReflectliteValue.method (Extern.ReflectliteValue.valueError "reflectlite.Value.Elem" 0) Extern.ReflectliteValue.elem) := fun args w => run_callFunc_extern (e := (Extern.ReflectliteValue.method (Extern.ReflectliteValue.valueError "reflectlite.Value.Elem" 0) Extern.ReflectliteValue.elem)) Tryd.func95 (by kernel_rfl) (by kernel_rfl) (by kernel_rfl) (by kernel_rfl) args w
theorem xt96 : ExtOk Tryd.prog 96 Extern.ReflectliteValue.set := fun args w => run_callFunc_extern (e := Extern.ReflectliteValue.set) Tryd.func96 (by kernel_rfl) (by kernel_rfl) (by kernel_rfl) (by kernel_rfl) args w
theorem ze106 : (Tryd.prog.info? 106).map (·.zero) = some (some (.agg #[(.int .i64 (0 : Int)), (.int .i64 (0 : Int)), (.int .i64 (0 : Int)), (.int .i64 (0 : Int)), (.int .i64 (0 : Int)), (.int .i64 (0 : Int)), (.int .i64 (0 : Int)), (.int .i64 (0 : Int)), (.int .i64 (0 : Int)), (.bool false), (.string (⟨#[]⟩ : ByteArray)), (.string (⟨#[]⟩ : ByteArray)), (.string (⟨#[]⟩ : ByteArray)), (.string (⟨#[]⟩ : ByteArray)), (.slice none 0 0), (.slice none 0 0), (.slice none 0 0), (.slice none 0 0)])) := by kernel_rfl
theorem ze124 : (Tryd.prog.info? 124).map (·.zero) = some (some (.agg #[(.pointer none), (.pointer none), (.int .u64 (0 : Int))])) := by kernel_rfl
theorem ze151 : (Tryd.prog.info? 151).map (·.zero) = some (some (.agg #[(.slice none 0 0), (.int .i64 (0 : Int)), (.nilIface)])) := by kernel_rfl
theorem ze176 : (Tryd.prog.info? 176).map (·.zero) = some (some (.agg #[(.int .i64 (0 : Int)), (.int .i64 (0 : Int)), (.int .i64 (0 : Int)), (.int .i64 (0 : Int)), (.int .i64 (0 : Int)), (.int .i64 (0 : Int)), (.int .i64 (0 : Int)), (.int .i64 (0 : Int)), (.int .i64 (0 : Int))])) := by kernel_rfl
theorem ze178 : (Tryd.prog.info? 178).map (·.zero) = some (some (.agg #[(.string (⟨#[]⟩ : ByteArray)), (.string (⟨#[]⟩ : ByteArray)), (.string (⟨#[]⟩ : ByteArray)), (.string (⟨#[]⟩ : ByteArray))])) := by kernel_rfl
theorem ze26 : (Tryd.prog.info? 26).map (·.zero) = some (some (.slice none 0 0)) := by kernel_rfl
theorem ze3 : (Tryd.prog.info? 3).map (·.zero) = some (some (.int .i64 (0 : Int))) := by kernel_rfl
theorem ze42 : (Tryd.prog.info? 42).map (·.zero) = some (some (.int .u64 (0 : Int))) := by kernel_rfl
theorem ze47 : (Tryd.prog.info? 47).map (·.zero) = some (some (.int .i64 (0 : Int))) := by kernel_rfl
theorem ze66 : (Tryd.prog.info? 66).map (·.zero) = some (some (.agg #[(.int .i64 (0 : Int)), (.int .i64 (0 : Int)), (.slice none 0 0)])) := by kernel_rfl
theorem ze89 : (Tryd.prog.info? 89).map (·.zero) = some (some (.agg #[(.string (⟨#[]⟩ : ByteArray)), (.int .i64 (0 : Int)), (.nilIface)])) := by kernel_rfl
theorem zo170 : (Tryd.prog.info? 170).map (·.zero) = some (some .nilIface) := by kernel_rfl
theorem zo171 : (Tryd.prog.info? 171).map (·.zero) = some (some .nilIface) := by kernel_rfl
theorem zo188 : (Tryd.prog.info? 188).map (·.zero) = some (some .nilIface) := by kernel_rfl
theorem mixed : Tryd.prog.follows .mixedOrders = true := by kernel_rfl

end Go.Proofs.YtjiffdgidodebaaDoor.G
