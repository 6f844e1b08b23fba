/- Closed facts on the program's types. Printed by a program of the session (gen). -/
import Derived.Test.YtjiffdgidodebaaGreatDoorRT
import Derived.Test.YtjiffdgidodebaaGreatDoorProg
set_option linter.unusedVariables false
set_option linter.unusedSimpArgs false
set_option maxHeartbeats 8000000
set_option maxRecDepth 100000
namespace Go.Proofs.YtjiffdgidodebaaGreatDoor.G
open Go Go.KK

def Env (M : IM) : Prop := M.cell ⟨0, 0, none⟩ = some (.iface 167 (.agg #[(.pointer (some ⟨1, 29, none⟩))]))
theorem Env.mono {M M' : IM} (h : Env M) (hle : M.le M') : Env M' := hle.cell h
theorem ag106 : aggB Tryz.prog 106 = true := by kernel_rfl
theorem ag108 : aggB Tryz.prog 108 = true := by kernel_rfl
theorem ag128 : aggB Tryz.prog 128 = true := by kernel_rfl
theorem ag139 : aggB Tryz.prog 139 = true := by kernel_rfl
theorem ag24 : aggB Tryz.prog 24 = true := by kernel_rfl
theorem ag33 : aggB Tryz.prog 33 = true := by kernel_rfl
theorem ag50 : aggB Tryz.prog 50 = true := by kernel_rfl
theorem ag67 : aggB Tryz.prog 67 = true := by kernel_rfl
theorem ag94 : aggB Tryz.prog 94 = true := by kernel_rfl
theorem cc31 : Tryz.prog.concrete 31 = true := by kernel_rfl
theorem cc91 : Tryz.prog.concrete 91 = true := by kernel_rfl
theorem cc94 : Tryz.prog.concrete 94 = true := by kernel_rfl
theorem cc95 : Tryz.prog.concrete 95 = true := by kernel_rfl
theorem cm31 : (Tryz.prog.info? 31).map (·.comparable) = some true := by kernel_rfl
theorem co100 : callOk Tryz.prog 100 = true := by kernel_rfl
theorem co101 : callOk Tryz.prog 101 = true := by kernel_rfl
theorem co107 : callOk Tryz.prog 107 = true := by kernel_rfl
theorem co108 : callOk Tryz.prog 108 = true := by kernel_rfl
theorem co109 : callOk Tryz.prog 109 = true := by kernel_rfl
theorem co11 : callOk Tryz.prog 11 = true := by kernel_rfl
theorem co110 : callOk Tryz.prog 110 = true := by kernel_rfl
theorem co111 : callOk Tryz.prog 111 = true := by kernel_rfl
theorem co112 : callOk Tryz.prog 112 = true := by kernel_rfl
theorem co113 : callOk Tryz.prog 113 = true := by kernel_rfl
theorem co114 : callOk Tryz.prog 114 = true := by kernel_rfl
theorem co115 : callOk Tryz.prog 115 = true := by kernel_rfl
theorem co118 : callOk Tryz.prog 118 = true := by kernel_rfl
theorem co119 : callOk Tryz.prog 119 = true := by kernel_rfl
theorem co12 : callOk Tryz.prog 12 = true := by kernel_rfl
theorem co122 : callOk Tryz.prog 122 = true := by kernel_rfl
theorem co13 : callOk Tryz.prog 13 = true := by kernel_rfl
theorem co14 : callOk Tryz.prog 14 = true := by kernel_rfl
theorem co142 : callOk Tryz.prog 142 = true := by kernel_rfl
theorem co15 : callOk Tryz.prog 15 = true := by kernel_rfl
theorem co18 : callOk Tryz.prog 18 = true := by kernel_rfl
theorem co19 : callOk Tryz.prog 19 = true := by kernel_rfl
theorem co20 : callOk Tryz.prog 20 = true := by kernel_rfl
theorem co21 : callOk Tryz.prog 21 = true := by kernel_rfl
theorem co22 : callOk Tryz.prog 22 = true := by kernel_rfl
theorem co23 : callOk Tryz.prog 23 = true := by kernel_rfl
theorem co24 : callOk Tryz.prog 24 = true := by kernel_rfl
theorem co25 : callOk Tryz.prog 25 = true := by kernel_rfl
theorem co27 : callOk Tryz.prog 27 = true := by kernel_rfl
theorem co28 : callOk Tryz.prog 28 = true := by kernel_rfl
theorem co29 : callOk Tryz.prog 29 = true := by kernel_rfl
theorem co30 : callOk Tryz.prog 30 = true := by kernel_rfl
theorem co31 : callOk Tryz.prog 31 = true := by kernel_rfl
theorem co32 : callOk Tryz.prog 32 = true := by kernel_rfl
theorem co33 : callOk Tryz.prog 33 = true := by kernel_rfl
theorem co34 : callOk Tryz.prog 34 = true := by kernel_rfl
theorem co35 : callOk Tryz.prog 35 = true := by kernel_rfl
theorem co36 : callOk Tryz.prog 36 = true := by kernel_rfl
theorem co37 : callOk Tryz.prog 37 = true := by kernel_rfl
theorem co38 : callOk Tryz.prog 38 = true := by kernel_rfl
theorem co39 : callOk Tryz.prog 39 = true := by kernel_rfl
theorem co40 : callOk Tryz.prog 40 = true := by kernel_rfl
theorem co42 : callOk Tryz.prog 42 = true := by kernel_rfl
theorem co43 : callOk Tryz.prog 43 = true := by kernel_rfl
theorem co44 : callOk Tryz.prog 44 = true := by kernel_rfl
theorem co45 : callOk Tryz.prog 45 = true := by kernel_rfl
theorem co46 : callOk Tryz.prog 46 = true := by kernel_rfl
theorem co47 : callOk Tryz.prog 47 = true := by kernel_rfl
theorem co48 : callOk Tryz.prog 48 = true := by kernel_rfl
theorem co49 : callOk Tryz.prog 49 = true := by kernel_rfl
theorem co50 : callOk Tryz.prog 50 = true := by kernel_rfl
theorem co51 : callOk Tryz.prog 51 = true := by kernel_rfl
theorem co52 : callOk Tryz.prog 52 = true := by kernel_rfl
theorem co53 : callOk Tryz.prog 53 = true := by kernel_rfl
theorem co54 : callOk Tryz.prog 54 = true := by kernel_rfl
theorem co55 : callOk Tryz.prog 55 = true := by kernel_rfl
theorem co56 : callOk Tryz.prog 56 = true := by kernel_rfl
theorem co57 : callOk Tryz.prog 57 = true := by kernel_rfl
theorem co58 : callOk Tryz.prog 58 = true := by kernel_rfl
theorem co59 : callOk Tryz.prog 59 = true := by kernel_rfl
theorem co60 : callOk Tryz.prog 60 = true := by kernel_rfl
theorem co61 : callOk Tryz.prog 61 = true := by kernel_rfl
theorem co62 : callOk Tryz.prog 62 = true := by kernel_rfl
theorem co63 : callOk Tryz.prog 63 = true := by kernel_rfl
theorem co64 : callOk Tryz.prog 64 = true := by kernel_rfl
theorem co65 : callOk Tryz.prog 65 = true := by kernel_rfl
theorem co66 : callOk Tryz.prog 66 = true := by kernel_rfl
theorem co67 : callOk Tryz.prog 67 = true := by kernel_rfl
theorem co68 : callOk Tryz.prog 68 = true := by kernel_rfl
theorem co69 : callOk Tryz.prog 69 = true := by kernel_rfl
theorem co7 : callOk Tryz.prog 7 = true := by kernel_rfl
theorem co70 : callOk Tryz.prog 70 = true := by kernel_rfl
theorem co71 : callOk Tryz.prog 71 = true := by kernel_rfl
theorem co72 : callOk Tryz.prog 72 = true := by kernel_rfl
theorem co73 : callOk Tryz.prog 73 = true := by kernel_rfl
theorem co74 : callOk Tryz.prog 74 = true := by kernel_rfl
theorem co75 : callOk Tryz.prog 75 = true := by kernel_rfl
theorem co78 : callOk Tryz.prog 78 = true := by kernel_rfl
theorem co79 : callOk Tryz.prog 79 = true := by kernel_rfl
theorem co8 : callOk Tryz.prog 8 = true := by kernel_rfl
theorem co80 : callOk Tryz.prog 80 = true := by kernel_rfl
theorem co81 : callOk Tryz.prog 81 = true := by kernel_rfl
theorem co82 : callOk Tryz.prog 82 = true := by kernel_rfl
theorem co83 : callOk Tryz.prog 83 = true := by kernel_rfl
theorem co84 : callOk Tryz.prog 84 = true := by kernel_rfl
theorem co85 : callOk Tryz.prog 85 = true := by kernel_rfl
theorem co86 : callOk Tryz.prog 86 = true := by kernel_rfl
theorem co87 : callOk Tryz.prog 87 = true := by kernel_rfl
theorem co88 : callOk Tryz.prog 88 = true := by kernel_rfl
theorem co89 : callOk Tryz.prog 89 = true := by kernel_rfl
theorem co9 : callOk Tryz.prog 9 = true := by kernel_rfl
theorem co90 : callOk Tryz.prog 90 = true := by kernel_rfl
theorem co91 : callOk Tryz.prog 91 = true := by kernel_rfl
theorem co95 : callOk Tryz.prog 95 = true := by kernel_rfl
theorem co97 : callOk Tryz.prog 97 = true := by kernel_rfl
theorem co98 : callOk Tryz.prog 98 = true := by kernel_rfl
theorem co99 : callOk Tryz.prog 99 = true := by kernel_rfl
theorem da31 (w : World) : (Extern.Rtype.directlyAssignable 31 31).run Tryz.prog w = .ok true w := by kernel_rfl
theorem da94 (w : World) : (Extern.Rtype.directlyAssignable 94 94).run Tryz.prog w = .ok true w := by kernel_rfl
theorem eg106 : Tryz.prog.eqGuardType Tryz.prog.depth 106 = false := by kernel_rfl
theorem eg108 : Tryz.prog.eqGuardType Tryz.prog.depth 108 = false := by kernel_rfl
theorem el91 (w : World) : (Extern.Rtype.elem? 91).run Tryz.prog w = .ok (some 31) w := by kernel_rfl
theorem el95 (w : World) : (Extern.Rtype.elem? 95).run Tryz.prog w = .ok (some 94) w := by kernel_rfl
theorem fo128_0 : fldOff Tryz.prog 128 0 = some 0 := by kernel_rfl
theorem fo128_1 : fldOff Tryz.prog 128 1 = some 1 := by kernel_rfl
theorem fo128_2 : fldOff Tryz.prog 128 2 = some 2 := by kernel_rfl
theorem fo128_3 : fldOff Tryz.prog 128 3 = some 3 := by kernel_rfl
theorem fo132_0 : fldOff Tryz.prog 132 0 = some 0 := by kernel_rfl
theorem fo132_1 : fldOff Tryz.prog 132 1 = some 1 := by kernel_rfl
theorem fo132_2 : fldOff Tryz.prog 132 2 = some 2 := by kernel_rfl
theorem fo24_0 : fldOff Tryz.prog 24 0 = some 0 := by kernel_rfl
theorem fo24_1 : fldOff Tryz.prog 24 1 = some 1 := by kernel_rfl
theorem fo24_2 : fldOff Tryz.prog 24 2 = some 2 := by kernel_rfl
theorem fo33_0 : fldOff Tryz.prog 33 0 = some 0 := by kernel_rfl
theorem fo33_1 : fldOff Tryz.prog 33 1 = some 1 := by kernel_rfl
theorem fo33_2 : fldOff Tryz.prog 33 2 = some 2 := by kernel_rfl
theorem fo35_0 : fldOff Tryz.prog 35 0 = some 0 := by kernel_rfl
theorem fo35_1 : fldOff Tryz.prog 35 1 = some 3 := by kernel_rfl
theorem fo50_0 : fldOff Tryz.prog 50 0 = some 0 := by kernel_rfl
theorem fo50_1 : fldOff Tryz.prog 50 1 = some 1 := by kernel_rfl
theorem fo50_2 : fldOff Tryz.prog 50 2 = some 2 := by kernel_rfl
theorem fo50_3 : fldOff Tryz.prog 50 3 = some 3 := by kernel_rfl
theorem fo57_0 : fldOff Tryz.prog 57 0 = some 0 := by kernel_rfl
theorem fo57_1 : fldOff Tryz.prog 57 1 = some 1 := by kernel_rfl
theorem fo67_0 : fldOff Tryz.prog 67 0 = some 0 := by kernel_rfl
theorem fo67_1 : fldOff Tryz.prog 67 1 = some 1 := by kernel_rfl
theorem fo67_10 : fldOff Tryz.prog 67 10 = some 10 := by kernel_rfl
theorem fo67_11 : fldOff Tryz.prog 67 11 = some 11 := by kernel_rfl
theorem fo67_12 : fldOff Tryz.prog 67 12 = some 12 := by kernel_rfl
theorem fo67_13 : fldOff Tryz.prog 67 13 = some 13 := by kernel_rfl
theorem fo67_14 : fldOff Tryz.prog 67 14 = some 14 := by kernel_rfl
theorem fo67_15 : fldOff Tryz.prog 67 15 = some 15 := by kernel_rfl
theorem fo67_16 : fldOff Tryz.prog 67 16 = some 16 := by kernel_rfl
theorem fo67_17 : fldOff Tryz.prog 67 17 = some 17 := by kernel_rfl
theorem fo67_2 : fldOff Tryz.prog 67 2 = some 2 := by kernel_rfl
theorem fo67_3 : fldOff Tryz.prog 67 3 = some 3 := by kernel_rfl
theorem fo67_4 : fldOff Tryz.prog 67 4 = some 4 := by kernel_rfl
theorem fo67_5 : fldOff Tryz.prog 67 5 = some 5 := by kernel_rfl
theorem fo67_6 : fldOff Tryz.prog 67 6 = some 6 := by kernel_rfl
theorem fo67_7 : fldOff Tryz.prog 67 7 = some 7 := by kernel_rfl
theorem fo67_8 : fldOff Tryz.prog 67 8 = some 8 := by kernel_rfl
theorem fo67_9 : fldOff Tryz.prog 67 9 = some 9 := by kernel_rfl
theorem fo85_0 : fldOff Tryz.prog 85 0 = some 0 := by kernel_rfl
theorem fo85_1 : fldOff Tryz.prog 85 1 = some 1 := by kernel_rfl
theorem fo85_2 : fldOff Tryz.prog 85 2 = some 2 := by kernel_rfl
theorem fo94_0 : fldOff Tryz.prog 94 0 = some 0 := by kernel_rfl
theorem fo94_1 : fldOff Tryz.prog 94 1 = some 1 := by kernel_rfl
theorem fo94_2 : fldOff Tryz.prog 94 2 = some 2 := by kernel_rfl
theorem fp128 : fldPlace Tryz.prog 128 = some [(0, 1), (1, 1), (2, 1), (3, 1)] := by kernel_rfl
theorem fp132 : fldPlace Tryz.prog 132 = some [(0, 1), (1, 1), (2, 1)] := by kernel_rfl
theorem fp24 : fldPlace Tryz.prog 24 = some [(0, 1), (1, 1), (2, 1)] := by kernel_rfl
theorem fp33 : fldPlace Tryz.prog 33 = some [(0, 1), (1, 1), (2, 1)] := by kernel_rfl
theorem fp35 : fldPlace Tryz.prog 35 = some [(0, 3), (3, 1)] := by kernel_rfl
theorem fp50 : fldPlace Tryz.prog 50 = some [(0, 1), (1, 1), (2, 1), (3, 1)] := by kernel_rfl
theorem fp57 : fldPlace Tryz.prog 57 = some [(0, 1), (1, 4)] := by kernel_rfl
theorem fp67 : fldPlace Tryz.prog 67 = some [(0, 1), (1, 1), (2, 1), (3, 1), (4, 1), (5, 1), (6, 1), (7, 1), (8, 1), (9, 1), (10, 1), (11, 1), (12, 1), (13, 1), (14, 1), (15, 1), (16, 1), (17, 1)] := by kernel_rfl
theorem fp85 : fldPlace Tryz.prog 85 = some [(0, 1), (1, 1), (2, 1)] := by kernel_rfl
theorem fp94 : fldPlace Tryz.prog 94 = some [(0, 1), (1, 1), (2, 1)] := by kernel_rfl
theorem ha94_174 (v : Value) (xT : TypeId) (w : World) : (Instr.typeAssert (.iface 94 v) xT 174 true).run Tryz.prog w = .ok (.tuple #[.iface 94 v, .bool true]) w := run_typeAssert_hasB Tryz.underlying174 (by kernel_rfl) v xT w
theorem in24 : (Tryz.prog.info? 24).map (fun i => (i.size, i.bytes, i.zero)) = some (3, 40, some (.agg #[(.int .i64 (0 : Int)), (.int .i64 (0 : Int)), (.slice none 0 0)])) := by kernel_rfl
theorem in3 : (Tryz.prog.info? 3).map (fun i => (i.size, i.bytes, i.zero)) = some (1, 8, some (.int .i64 (0 : Int))) := by kernel_rfl
theorem in5 : (Tryz.prog.info? 5).map (fun i => (i.size, i.bytes, i.zero)) = some (1, 1, some (.int .u8 (0 : Int))) := by kernel_rfl
theorem in67 : (Tryz.prog.info? 67).map (fun i => (i.size, i.bytes, i.zero)) = some (18, 240, some (.agg #[(.int .i64 (0 : Int)), (.int .i64 (0 : Int)), (.int .i64 (0 : Int)), (.int .i64 (0 : Int)), (.int .i64 (0 : Int)), (.int .i64 (0 : Int)), (.int .i64 (0 : Int)), (.int .i64 (0 : Int)), (.int .i64 (0 : Int)), (.bool false), (.string (⟨#[]⟩ : ByteArray)), (.string (⟨#[]⟩ : ByteArray)), (.string (⟨#[]⟩ : ByteArray)), (.string (⟨#[]⟩ : ByteArray)), (.slice none 0 0), (.slice none 0 0), (.slice none 0 0), (.slice none 0 0)])) := by kernel_rfl
theorem in9 : (Tryz.prog.info? 9).map (fun i => (i.size, i.bytes, i.zero)) = some (1, 16, some (.string (⟨#[]⟩ : ByteArray))) := by kernel_rfl
theorem iz24 : (Tryz.prog.info? 24).map (fun i => (i.size, i.zero)) = some (3, some (.agg #[(.int .i64 (0 : Int)), (.int .i64 (0 : Int)), (.slice none 0 0)])) := by kernel_rfl
theorem iz3 : (Tryz.prog.info? 3).map (fun i => (i.size, i.zero)) = some (1, some (.int .i64 (0 : Int))) := by kernel_rfl
theorem iz5 : (Tryz.prog.info? 5).map (fun i => (i.size, i.zero)) = some (1, some (.int .u8 (0 : Int))) := by kernel_rfl
theorem iz67 : (Tryz.prog.info? 67).map (fun i => (i.size, i.zero)) = some (18, some (.agg #[(.int .i64 (0 : Int)), (.int .i64 (0 : Int)), (.int .i64 (0 : Int)), (.int .i64 (0 : Int)), (.int .i64 (0 : Int)), (.int .i64 (0 : Int)), (.int .i64 (0 : Int)), (.int .i64 (0 : Int)), (.int .i64 (0 : Int)), (.bool false), (.string (⟨#[]⟩ : ByteArray)), (.string (⟨#[]⟩ : ByteArray)), (.string (⟨#[]⟩ : ByteArray)), (.string (⟨#[]⟩ : ByteArray)), (.slice none 0 0), (.slice none 0 0), (.slice none 0 0), (.slice none 0 0)])) := by kernel_rfl
theorem iz9 : (Tryz.prog.info? 9).map (fun i => (i.size, i.zero)) = some (1, some (.string (⟨#[]⟩ : ByteArray))) := by kernel_rfl
theorem la0_171 (v : Value) (xT : TypeId) (w : World) : (Instr.typeAssert (.iface 0 v) xT 171 true).run Tryz.prog w = .ok (.tuple #[.nilIface, .bool false]) w := run_typeAssert_lacksB Tryz.underlying171 (by kernel_rfl) (by kernel_rfl) v xT w
theorem la0_174 (v : Value) (xT : TypeId) (w : World) : (Instr.typeAssert (.iface 0 v) xT 174 true).run Tryz.prog w = .ok (.tuple #[.nilIface, .bool false]) w := run_typeAssert_lacksB Tryz.underlying174 (by kernel_rfl) (by kernel_rfl) v xT w
theorem la0_175 (v : Value) (xT : TypeId) (w : World) : (Instr.typeAssert (.iface 0 v) xT 175 true).run Tryz.prog w = .ok (.tuple #[.nilIface, .bool false]) w := run_typeAssert_lacksB Tryz.underlying175 (by kernel_rfl) (by kernel_rfl) v xT w
theorem la0_178 (v : Value) (xT : TypeId) (w : World) : (Instr.typeAssert (.iface 0 v) xT 178 true).run Tryz.prog w = .ok (.tuple #[.nilIface, .bool false]) w := run_typeAssert_lacksB Tryz.underlying178 (by kernel_rfl) (by kernel_rfl) v xT w
theorem la31_171 (v : Value) (xT : TypeId) (w : World) : (Instr.typeAssert (.iface 31 v) xT 171 true).run Tryz.prog w = .ok (.tuple #[.nilIface, .bool false]) w := run_typeAssert_lacksB Tryz.underlying171 (by kernel_rfl) (by kernel_rfl) v xT w
theorem la31_174 (v : Value) (xT : TypeId) (w : World) : (Instr.typeAssert (.iface 31 v) xT 174 true).run Tryz.prog w = .ok (.tuple #[.nilIface, .bool false]) w := run_typeAssert_lacksB Tryz.underlying174 (by kernel_rfl) (by kernel_rfl) v xT w
theorem la31_175 (v : Value) (xT : TypeId) (w : World) : (Instr.typeAssert (.iface 31 v) xT 175 true).run Tryz.prog w = .ok (.tuple #[.nilIface, .bool false]) w := run_typeAssert_lacksB Tryz.underlying175 (by kernel_rfl) (by kernel_rfl) v xT w
theorem la31_178 (v : Value) (xT : TypeId) (w : World) : (Instr.typeAssert (.iface 31 v) xT 178 true).run Tryz.prog w = .ok (.tuple #[.nilIface, .bool false]) w := run_typeAssert_lacksB Tryz.underlying178 (by kernel_rfl) (by kernel_rfl) v xT w
theorem la94_171 (v : Value) (xT : TypeId) (w : World) : (Instr.typeAssert (.iface 94 v) xT 171 true).run Tryz.prog w = .ok (.tuple #[.nilIface, .bool false]) w := run_typeAssert_lacksB Tryz.underlying171 (by kernel_rfl) (by kernel_rfl) v xT w
theorem la94_178 (v : Value) (xT : TypeId) (w : World) : (Instr.typeAssert (.iface 94 v) xT 178 true).run Tryz.prog w = .ok (.tuple #[.nilIface, .bool false]) w := run_typeAssert_lacksB Tryz.underlying178 (by kernel_rfl) (by kernel_rfl) v xT w
theorem me94_Unwrap (v : Value) (w : World) : (method (mdepth Tryz.prog) 94 v "Unwrap").run Tryz.prog w = .ok (142, v) w := by kernel_rfl
theorem mk31 (p : Addr) (w : World) : (Extern.ReflectliteValue.mk 31 p Extern.ReflectliteValue.flagAddr).run Tryz.prog w = .ok (.agg #[(.pointer (some ⟨1, 31, none⟩)), .pointer (some p), .int .u64 386]) w := by kernel_rfl
theorem mk94 (p : Addr) (w : World) : (Extern.ReflectliteValue.mk 94 p Extern.ReflectliteValue.flagAddr).run Tryz.prog w = .ok (.agg #[(.pointer (some ⟨1, 94, none⟩)), .pointer (some p), .int .u64 409]) w := by kernel_rfl
theorem mm_AssignableTo (h : Value) (w : World) : (method (mdepth Tryz.prog) 167 (.agg #[h]) "AssignableTo").run Tryz.prog w = .ok (147, .agg #[h]) w := by kernel_rfl
theorem mm_Comparable (h : Value) (w : World) : (method (mdepth Tryz.prog) 167 (.agg #[h]) "Comparable").run Tryz.prog w = .ok (148, .agg #[h]) w := by kernel_rfl
theorem mm_Elem (h : Value) (w : World) : (method (mdepth Tryz.prog) 167 (.agg #[h]) "Elem").run Tryz.prog w = .ok (149, .agg #[h]) w := by kernel_rfl
theorem mm_Implements (h : Value) (w : World) : (method (mdepth Tryz.prog) 167 (.agg #[h]) "Implements").run Tryz.prog w = .ok (150, .agg #[h]) w := by kernel_rfl
theorem mm_Kind (h : Value) (w : World) : (method (mdepth Tryz.prog) 167 (.agg #[h]) "Kind").run Tryz.prog w = .ok (137, h) w := by kernel_rfl
theorem mr_AssignableTo_0_31 (w : World) : ((Extern.ReflectliteType.relation "AssignableTo" Extern.ReflectliteType.assignableTo) #[.agg #[(.pointer (some ⟨1, 0, none⟩))], (.iface 167 (.agg #[.pointer (some ⟨1, 31, none⟩)]))]).run Tryz.prog w = .ok (.bool false) w := by kernel_rfl
theorem mr_AssignableTo_0_94 (w : World) : ((Extern.ReflectliteType.relation "AssignableTo" Extern.ReflectliteType.assignableTo) #[.agg #[(.pointer (some ⟨1, 0, none⟩))], (.iface 167 (.agg #[.pointer (some ⟨1, 94, none⟩)]))]).run Tryz.prog w = .ok (.bool false) w := by kernel_rfl
theorem mr_AssignableTo_31_31 (w : World) : ((Extern.ReflectliteType.relation "AssignableTo" Extern.ReflectliteType.assignableTo) #[.agg #[(.pointer (some ⟨1, 31, none⟩))], (.iface 167 (.agg #[.pointer (some ⟨1, 31, none⟩)]))]).run Tryz.prog w = .ok (.bool true) w := by kernel_rfl
theorem mr_AssignableTo_31_94 (w : World) : ((Extern.ReflectliteType.relation "AssignableTo" Extern.ReflectliteType.assignableTo) #[.agg #[(.pointer (some ⟨1, 31, none⟩))], (.iface 167 (.agg #[.pointer (some ⟨1, 94, none⟩)]))]).run Tryz.prog w = .ok (.bool false) w := by kernel_rfl
theorem mr_AssignableTo_94_31 (w : World) : ((Extern.ReflectliteType.relation "AssignableTo" Extern.ReflectliteType.assignableTo) #[.agg #[(.pointer (some ⟨1, 94, none⟩))], (.iface 167 (.agg #[.pointer (some ⟨1, 31, none⟩)]))]).run Tryz.prog w = .ok (.bool false) w := by kernel_rfl
theorem mr_AssignableTo_94_94 (w : World) : ((Extern.ReflectliteType.relation "AssignableTo" Extern.ReflectliteType.assignableTo) #[.agg #[(.pointer (some ⟨1, 94, none⟩))], (.iface 167 (.agg #[.pointer (some ⟨1, 94, none⟩)]))]).run Tryz.prog w = .ok (.bool true) w := by kernel_rfl
theorem mr_Comparable_31 (w : World) : ((Extern.ReflectliteType.method fun t => do Extern.Rtype.noPackHeld "Comparable" t; pure (.bool (← typeInfo t).comparable)) #[.agg #[(.pointer (some ⟨1, 31, none⟩))]]).run Tryz.prog w = .ok (.bool true) w := by kernel_rfl
theorem mr_Elem_91 (w : World) : ((Extern.ReflectliteType.method Extern.ReflectliteType.elem) #[.agg #[(.pointer (some ⟨1, 91, none⟩))]]).run Tryz.prog w = .ok (.iface 167 (.agg #[.pointer (some ⟨1, 31, none⟩)])) w := by kernel_rfl
theorem mr_Elem_95 (w : World) : ((Extern.ReflectliteType.method Extern.ReflectliteType.elem) #[.agg #[(.pointer (some ⟨1, 95, none⟩))]]).run Tryz.prog w = .ok (.iface 167 (.agg #[.pointer (some ⟨1, 94, none⟩)])) w := by kernel_rfl
theorem mr_Implements_31_29 (w : World) : ((Extern.ReflectliteType.relation "Implements" Extern.ReflectliteType.implements_) #[.agg #[(.pointer (some ⟨1, 31, none⟩))], (.iface 167 (.agg #[.pointer (some ⟨1, 29, none⟩)]))]).run Tryz.prog w = .ok (.bool true) w := by kernel_rfl
theorem mr_Implements_94_29 (w : World) : ((Extern.ReflectliteType.relation "Implements" Extern.ReflectliteType.implements_) #[.agg #[(.pointer (some ⟨1, 94, none⟩))], (.iface 167 (.agg #[.pointer (some ⟨1, 29, none⟩)]))]).run Tryz.prog w = .ok (.bool true) w := by kernel_rfl
theorem mr_Kind_31 (w : World) : ((Extern.ReflectliteType.abiMethod fun t => do pure (.int .u8 (← Extern.Rtype.kind t))) #[(.pointer (some ⟨1, 31, none⟩))]).run Tryz.prog w = .ok (.int .u8 (2 : Int)) w := by kernel_rfl
theorem mr_Kind_91 (w : World) : ((Extern.ReflectliteType.abiMethod fun t => do pure (.int .u8 (← Extern.Rtype.kind t))) #[(.pointer (some ⟨1, 91, none⟩))]).run Tryz.prog w = .ok (.int .u8 (22 : Int)) w := by kernel_rfl
theorem mr_Kind_94 (w : World) : ((Extern.ReflectliteType.abiMethod fun t => do pure (.int .u8 (← Extern.Rtype.kind t))) #[(.pointer (some ⟨1, 94, none⟩))]).run Tryz.prog w = .ok (.int .u8 (25 : Int)) w := by kernel_rfl
theorem mr_Kind_95 (w : World) : ((Extern.ReflectliteType.abiMethod fun t => do pure (.int .u8 (← Extern.Rtype.kind t))) #[(.pointer (some ⟨1, 95, none⟩))]).run Tryz.prog w = .ok (.int .u8 (22 : Int)) w := by kernel_rfl
theorem pl112 : plainT Tryz.prog 112 = true := by kernel_rfl
theorem pl142 : plainT Tryz.prog 142 = true := by kernel_rfl
theorem pl22 : plainT Tryz.prog 22 = true := by kernel_rfl
theorem pl29 : plainT Tryz.prog 29 = true := by kernel_rfl
theorem pl3 : plainT Tryz.prog 3 = true := by kernel_rfl
theorem pl31 : plainT Tryz.prog 31 = true := by kernel_rfl
theorem pl4 : plainT Tryz.prog 4 = true := by kernel_rfl
theorem pl40 : plainT Tryz.prog 40 = true := by kernel_rfl
theorem pl5 : plainT Tryz.prog 5 = true := by kernel_rfl
theorem pl53 : plainT Tryz.prog 53 = true := by kernel_rfl
theorem pl65 : plainT Tryz.prog 65 = true := by kernel_rfl
theorem pl9 : plainT Tryz.prog 9 = true := by kernel_rfl
theorem pl91 : plainT Tryz.prog 91 = true := by kernel_rfl
theorem pl95 : plainT Tryz.prog 95 = true := by kernel_rfl
theorem pp31_130 (a : Addr) (w : World) : (Extern.ReflectliteValue.parts (.agg #[(.pointer (some ⟨1, 31, none⟩)), .pointer (some a), .int .u64 130])).run Tryz.prog w = .ok (some (31, a, 130)) w := by kernel_rfl
theorem pp31_386 (a : Addr) (w : World) : (Extern.ReflectliteValue.parts (.agg #[(.pointer (some ⟨1, 31, none⟩)), .pointer (some a), .int .u64 386])).run Tryz.prog w = .ok (some (31, a, 386)) w := by kernel_rfl
theorem pp91_150 (a : Addr) (w : World) : (Extern.ReflectliteValue.parts (.agg #[(.pointer (some ⟨1, 91, none⟩)), .pointer (some a), .int .u64 150])).run Tryz.prog w = .ok (some (91, a, 150)) w := by kernel_rfl
theorem pp94_153 (a : Addr) (w : World) : (Extern.ReflectliteValue.parts (.agg #[(.pointer (some ⟨1, 94, none⟩)), .pointer (some a), .int .u64 153])).run Tryz.prog w = .ok (some (94, a, 153)) w := by kernel_rfl
theorem pp94_409 (a : Addr) (w : World) : (Extern.ReflectliteValue.parts (.agg #[(.pointer (some ⟨1, 94, none⟩)), .pointer (some a), .int .u64 409])).run Tryz.prog w = .ok (some (94, a, 409)) w := by kernel_rfl
theorem pp95_150 (a : Addr) (w : World) : (Extern.ReflectliteValue.parts (.agg #[(.pointer (some ⟨1, 95, none⟩)), .pointer (some a), .int .u64 150])).run Tryz.prog w = .ok (some (95, a, 150)) w := by kernel_rfl
theorem sz106 : (Tryz.prog.info? 106).map (·.size) = some 9 := by kernel_rfl
theorem sz108 : (Tryz.prog.info? 108).map (·.size) = some 4 := by kernel_rfl
theorem sz112 : (Tryz.prog.info? 112).map (·.size) = some 1 := by kernel_rfl
theorem sz128 : (Tryz.prog.info? 128).map (·.size) = some 4 := by kernel_rfl
theorem sz139 : (Tryz.prog.info? 139).map (·.size) = some 3 := by kernel_rfl
theorem sz22 : (Tryz.prog.info? 22).map (·.size) = some 1 := by kernel_rfl
theorem sz24 : (Tryz.prog.info? 24).map (·.size) = some 3 := by kernel_rfl
theorem sz29 : (Tryz.prog.info? 29).map (·.size) = some 1 := by kernel_rfl
theorem sz3 : (Tryz.prog.info? 3).map (·.size) = some 1 := by kernel_rfl
theorem sz31 : (Tryz.prog.info? 31).map (·.size) = some 1 := by kernel_rfl
theorem sz33 : (Tryz.prog.info? 33).map (·.size) = some 3 := by kernel_rfl
theorem sz4 : (Tryz.prog.info? 4).map (·.size) = some 1 := by kernel_rfl
theorem sz40 : (Tryz.prog.info? 40).map (·.size) = some 1 := by kernel_rfl
theorem sz5 : (Tryz.prog.info? 5).map (·.size) = some 1 := by kernel_rfl
theorem sz50 : (Tryz.prog.info? 50).map (·.size) = some 4 := by kernel_rfl
theorem sz65 : (Tryz.prog.info? 65).map (·.size) = some 1 := by kernel_rfl
theorem sz67 : (Tryz.prog.info? 67).map (·.size) = some 18 := by kernel_rfl
theorem sz9 : (Tryz.prog.info? 9).map (·.size) = some 1 := by kernel_rfl
theorem sz94 : (Tryz.prog.info? 94).map (·.size) = some 3 := by kernel_rfl
theorem ty0 (v : Value) (w : World) : (Extern.ReflectliteType.typeOf #[.iface 0 v]).run Tryz.prog w = .ok (.iface 167 (.agg #[(.pointer (some ⟨1, 0, none⟩))])) w := by kernel_rfl
theorem ty31 (v : Value) (w : World) : (Extern.ReflectliteType.typeOf #[.iface 31 v]).run Tryz.prog w = .ok (.iface 167 (.agg #[(.pointer (some ⟨1, 31, none⟩))])) w := by kernel_rfl
theorem ty94 (v : Value) (w : World) : (Extern.ReflectliteType.typeOf #[.iface 94 v]).run Tryz.prog w = .ok (.iface 167 (.agg #[(.pointer (some ⟨1, 94, none⟩))])) w := by kernel_rfl
theorem tyNil (w : World) : (Extern.ReflectliteType.typeOf #[.nilIface]).run Tryz.prog w = .ok .nilIface w := by kernel_rfl
theorem us112 : (Tryz.prog.underlying 112).isSome = true := by kernel_rfl
theorem us3 : (Tryz.prog.underlying 3).isSome = true := by kernel_rfl
theorem us5 : (Tryz.prog.underlying 5).isSome = true := by kernel_rfl
theorem vo31 (n : Int) (w : World) : (Extern.ReflectliteValue.unpack (.iface 31 (.int .i64 n))).run Tryz.prog w = .ok (.agg #[(.pointer (some ⟨1, 31, none⟩)), .pointer (some ⟨w.heap.size, 0, none⟩), .int .u64 130]) (w.alloc (.cells #[.int .i64 n] 31)) := by kernel_rfl
theorem vo91 (p : Addr) (w : World) : (Extern.ReflectliteValue.unpack (.iface 91 (.pointer (some p)))).run Tryz.prog w = .ok (.agg #[(.pointer (some ⟨1, 91, none⟩)), .pointer (some ⟨w.heap.size, 0, none⟩), .int .u64 150]) (w.alloc (.cells #[.pointer (some p)] 91)) := by kernel_rfl
theorem vo94 (o : ByteArray) (n : Int) (e : Value) (w : World) : (Extern.ReflectliteValue.unpack (.iface 94 (.agg #[.string o, .int .i64 n, e]))).run Tryz.prog w = .ok (.agg #[(.pointer (some ⟨1, 94, none⟩)), .pointer (some ⟨w.heap.size, 0, none⟩), .int .u64 153]) (w.alloc (.cells #[.string o, .int .i64 n, e] 94)) := by kernel_rfl
theorem vo95 (p : Addr) (w : World) : (Extern.ReflectliteValue.unpack (.iface 95 (.pointer (some p)))).run Tryz.prog w = .ok (.agg #[(.pointer (some ⟨1, 95, none⟩)), .pointer (some ⟨w.heap.size, 0, none⟩), .int .u64 150]) (w.alloc (.cells #[.pointer (some p)] 95)) := by kernel_rfl
theorem vt91_150 (a : Addr) (w : World) : ((Extern.ReflectliteValue.methodAny (Extern.ReflectliteValue.valueError "reflectlite.Value.Type" 0) (fun t _ _ _ => Extern.ReflectliteType.toType t)) #[.agg #[(.pointer (some ⟨1, 91, none⟩)), .pointer (some a), .int .u64 150]]).run Tryz.prog w = .ok (.iface 167 (.agg #[(.pointer (some ⟨1, 91, none⟩))])) w := by kernel_rfl
theorem vt95_150 (a : Addr) (w : World) : ((Extern.ReflectliteValue.methodAny (Extern.ReflectliteValue.valueError "reflectlite.Value.Type" 0) (fun t _ _ _ => Extern.ReflectliteType.toType t)) #[.agg #[(.pointer (some ⟨1, 95, none⟩)), .pointer (some a), .int .u64 150]]).run Tryz.prog w = .ok (.iface 167 (.agg #[(.pointer (some ⟨1, 95, none⟩))])) w := by kernel_rfl
theorem xt116 : ExtOk Tryz.prog 116 (Extern.ReflectliteValue.method (Extern.ReflectliteValue.valueError "reflectlite.Value.Elem" 0) Extern.ReflectliteValue.elem) := fun args w => run_callFunc_extern (e := (Extern.ReflectliteValue.method (Extern.ReflectliteValue.valueError "reflectlite.Value.Elem" 0) Extern.ReflectliteValue.elem)) Tryz.func116 (by kernel_rfl) (by kernel_rfl) (by kernel_rfl) (by kernel_rfl) args w
theorem xt117 : ExtOk Tryz.prog 117 Extern.ReflectliteValue.set := fun args w => run_callFunc_extern (e := Extern.ReflectliteValue.set) Tryz.func117 (by kernel_rfl) (by kernel_rfl) (by kernel_rfl) (by kernel_rfl) args w
theorem xt137 : ExtOk Tryz.prog 137 (Extern.ReflectliteType.abiMethod fun t => do pure (.int .u8 (← Extern.Rtype.kind t))) := fun args w => run_callFunc_extern (e := (Extern.ReflectliteType.abiMethod fun t => do pure (.int .u8 (← Extern.Rtype.kind t)))) Tryz.func137 (by kernel_rfl) (by kernel_rfl) (by kernel_rfl) (by kernel_rfl) args w
theorem xt147 : ExtOk Tryz.prog 147 (Extern.ReflectliteType.relation "AssignableTo" Extern.ReflectliteType.assignableTo) := fun args w => run_callFunc_extern (e := (Extern.ReflectliteType.relation "AssignableTo" Extern.ReflectliteType.assignableTo)) Tryz.func147 (by kernel_rfl) (by kernel_rfl) (by kernel_rfl) (by kernel_rfl) args w
theorem xt148 : ExtOk Tryz.prog 148 (Extern.ReflectliteType.method fun t => do Extern.Rtype.noPackHeld "Comparable" t; pure (.bool (← typeInfo t).comparable)) := fun args w => run_callFunc_extern (e := (Extern.ReflectliteType.method fun t => do Extern.Rtype.noPackHeld "Comparable" t; pure (.bool (← typeInfo t).comparable))) Tryz.func148 (by kernel_rfl) (by kernel_rfl) (by kernel_rfl) (by kernel_rfl) args w
theorem xt149 : ExtOk Tryz.prog 149 (Extern.ReflectliteType.method Extern.ReflectliteType.elem) := fun args w => run_callFunc_extern (e := (Extern.ReflectliteType.method Extern.ReflectliteType.elem)) Tryz.func149 (by kernel_rfl) (by kernel_rfl) (by kernel_rfl) (by kernel_rfl) args w
theorem xt150 : ExtOk Tryz.prog 150 (Extern.ReflectliteType.relation "Implements" Extern.ReflectliteType.implements_) := fun args w => run_callFunc_extern (e := (Extern.ReflectliteType.relation "Implements" Extern.ReflectliteType.implements_)) Tryz.func150 (by kernel_rfl) (by kernel_rfl) (by kernel_rfl) (by kernel_rfl) args w
theorem xt92 : ExtOk Tryz.prog 92 (fun args => Extern.ReflectliteValue.unpack (args.getD 0 (.tuple #[]))) := fun args w => run_callFunc_extern (e := (fun args => Extern.ReflectliteValue.unpack (args.getD 0 (.tuple #[])))) Tryz.func92 (by kernel_rfl) (by kernel_rfl) (by kernel_rfl) (by kernel_rfl) args w
theorem xt93 : ExtOk Tryz.prog 93 (Extern.ReflectliteValue.methodAny (Extern.ReflectliteValue.valueError "reflectlite.Value.Type" 0) (fun t _ _ _ => Extern.ReflectliteType.toType t)) := fun args w => run_callFunc_extern (e := (Extern.ReflectliteValue.methodAny (Extern.ReflectliteValue.valueError "reflectlite.Value.Type" 0) (fun t _ _ _ => Extern.ReflectliteType.toType t))) Tryz.func93 (by kernel_rfl) (by kernel_rfl) (by kernel_rfl) (by kernel_rfl) args w
theorem xt94 : ExtOk Tryz.prog 94 (Extern.ReflectliteValue.method (Extern.ReflectliteValue.valueError "reflectlite.Value.IsNil" 0) Extern.ReflectliteValue.isNil) := fun args w => run_callFunc_extern (e := (Extern.ReflectliteValue.method (Extern.ReflectliteValue.valueError "reflectlite.Value.IsNil" 0) Extern.ReflectliteValue.isNil)) Tryz.func94 (by kernel_rfl) (by kernel_rfl) (by kernel_rfl) (by kernel_rfl) args w
theorem xt96 : ExtOk Tryz.prog 96 Extern.ReflectliteType.typeOf := fun args w => run_callFunc_extern (e := Extern.ReflectliteType.typeOf) Tryz.func96 (by kernel_rfl) (by kernel_rfl) (by kernel_rfl) (by kernel_rfl) args w
theorem ze106 : (Tryz.prog.info? 106).map (·.zero) = some (some (.agg #[(.int .i64 (0 : Int)), (.int .i64 (0 : Int)), (.int .i64 (0 : Int)), (.int .i64 (0 : Int)), (.int .i64 (0 : Int)), (.int .i64 (0 : Int)), (.int .i64 (0 : Int)), (.int .i64 (0 : Int)), (.int .i64 (0 : Int))])) := by kernel_rfl
theorem ze108 : (Tryz.prog.info? 108).map (·.zero) = some (some (.agg #[(.string (⟨#[]⟩ : ByteArray)), (.string (⟨#[]⟩ : ByteArray)), (.string (⟨#[]⟩ : ByteArray)), (.string (⟨#[]⟩ : ByteArray))])) := by kernel_rfl
theorem ze112 : (Tryz.prog.info? 112).map (·.zero) = some (some (.int .u64 (0 : Int))) := by kernel_rfl
theorem ze128 : (Tryz.prog.info? 128).map (·.zero) = some (some (.agg #[(.int .u64 (0 : Int)), (.bool false), (.slice none 0 0), (.slice none 0 0)])) := by kernel_rfl
theorem ze132 : (Tryz.prog.info? 132).map (·.zero) = some (some (.agg #[(.int .i64 (0 : Int)), (.int .i64 (0 : Int)), (.int .i64 (0 : Int))])) := by kernel_rfl
theorem ze139 : (Tryz.prog.info? 139).map (·.zero) = some (some (.agg #[(.pointer none), (.pointer none), (.int .u64 (0 : Int))])) := by kernel_rfl
theorem ze24 : (Tryz.prog.info? 24).map (·.zero) = some (some (.agg #[(.int .i64 (0 : Int)), (.int .i64 (0 : Int)), (.slice none 0 0)])) := by kernel_rfl
theorem ze3 : (Tryz.prog.info? 3).map (·.zero) = some (some (.int .i64 (0 : Int))) := by kernel_rfl
theorem ze31 : (Tryz.prog.info? 31).map (·.zero) = some (some (.int .i64 (0 : Int))) := by kernel_rfl
theorem ze33 : (Tryz.prog.info? 33).map (·.zero) = some (some (.agg #[(.string (⟨#[]⟩ : ByteArray)), (.int .i64 (0 : Int)), (.int .i64 (0 : Int))])) := by kernel_rfl
theorem ze35 : (Tryz.prog.info? 35).map (·.zero) = some (some (.agg #[(.string (⟨#[]⟩ : ByteArray)), (.int .i64 (0 : Int)), (.int .i64 (0 : Int)), (.int .i64 (0 : Int))])) := by kernel_rfl
theorem ze40 : (Tryz.prog.info? 40).map (·.zero) = some (some (.slice none 0 0)) := by kernel_rfl
theorem ze50 : (Tryz.prog.info? 50).map (·.zero) = some (some (.agg #[(.int .i64 (0 : Int)), (.int .i64 (0 : Int)), (.string (⟨#[]⟩ : ByteArray)), (.int .i64 (0 : Int))])) := by kernel_rfl
theorem ze57 : (Tryz.prog.info? 57).map (·.zero) = some (some (.agg #[(.slice none 0 0), (.int .i64 (0 : Int)), (.int .i64 (0 : Int)), (.string (⟨#[]⟩ : ByteArray)), (.int .i64 (0 : Int))])) := by kernel_rfl
theorem ze67 : (Tryz.prog.info? 67).map (·.zero) = some (some (.agg #[(.int .i64 (0 : Int)), (.int .i64 (0 : Int)), (.int .i64 (0 : Int)), (.int .i64 (0 : Int)), (.int .i64 (0 : Int)), (.int .i64 (0 : Int)), (.int .i64 (0 : Int)), (.int .i64 (0 : Int)), (.int .i64 (0 : Int)), (.bool false), (.string (⟨#[]⟩ : ByteArray)), (.string (⟨#[]⟩ : ByteArray)), (.string (⟨#[]⟩ : ByteArray)), (.string (⟨#[]⟩ : ByteArray)), (.slice none 0 0), (.slice none 0 0), (.slice none 0 0), (.slice none 0 0)])) := by kernel_rfl
theorem ze85 : (Tryz.prog.info? 85).map (·.zero) = some (some (.agg #[(.slice none 0 0), (.int .i64 (0 : Int)), (.nilIface)])) := by kernel_rfl
theorem ze94 : (Tryz.prog.info? 94).map (·.zero) = some (some (.agg #[(.string (⟨#[]⟩ : ByteArray)), (.int .i64 (0 : Int)), (.nilIface)])) := by kernel_rfl
theorem zo174 : (Tryz.prog.info? 174).map (·.zero) = some (some .nilIface) := by kernel_rfl
theorem zo175 : (Tryz.prog.info? 175).map (·.zero) = some (some .nilIface) := by kernel_rfl
theorem zo178 : (Tryz.prog.info? 178).map (·.zero) = some (some .nilIface) := by kernel_rfl
theorem mixed : Tryz.prog.follows .mixedOrders = true := by kernel_rfl

end Go.Proofs.YtjiffdgidodebaaGreatDoor.G
