/- Closed facts on the program's types. Printed by a program of the session (gen). -/
import Derived.Test.YtpcbipcdfccnnaaGreatST
import Derived.Test.YtpcbipcdfccnnaaGreatProg
set_option linter.unusedVariables false
set_option linter.unusedSimpArgs false
set_option maxHeartbeats 8000000
set_option maxRecDepth 100000
namespace Go.Proofs.YtpcbipcdfccnnaaGreat.G
open Go Go.KK

theorem ag29 : aggB Tryz.prog 29 = true := by kernel_rfl
theorem ag45 : aggB Tryz.prog 45 = true := by kernel_rfl
theorem ag52 : aggB Tryz.prog 52 = true := by kernel_rfl
theorem ag54 : aggB Tryz.prog 54 = true := by kernel_rfl
theorem ag59 : aggB Tryz.prog 59 = true := by kernel_rfl
theorem ag64 : aggB Tryz.prog 64 = true := by kernel_rfl
theorem ag66 : aggB Tryz.prog 66 = true := by kernel_rfl
theorem ag89 : aggB Tryz.prog 89 = true := by kernel_rfl
theorem ag95 : aggB Tryz.prog 95 = true := by kernel_rfl
theorem cc104 : Tryz.prog.concrete 104 = true := by kernel_rfl
theorem cc40 : Tryz.prog.concrete 40 = true := by kernel_rfl
theorem cm40 : (Tryz.prog.info? 40).map (·.comparable) = some true := by kernel_rfl
theorem co100 : callOk Tryz.prog 100 = true := by kernel_rfl
theorem co101 : callOk Tryz.prog 101 = true := by kernel_rfl
theorem co102 : callOk Tryz.prog 102 = true := by kernel_rfl
theorem co103 : callOk Tryz.prog 103 = true := by kernel_rfl
theorem co104 : callOk Tryz.prog 104 = true := by kernel_rfl
theorem co105 : callOk Tryz.prog 105 = true := by kernel_rfl
theorem co106 : callOk Tryz.prog 106 = true := by kernel_rfl
theorem co107 : callOk Tryz.prog 107 = true := by kernel_rfl
theorem co11 : callOk Tryz.prog 11 = true := by kernel_rfl
theorem co12 : callOk Tryz.prog 12 = true := by kernel_rfl
theorem co126 : callOk Tryz.prog 126 = true := by kernel_rfl
theorem co13 : callOk Tryz.prog 13 = true := by kernel_rfl
theorem co14 : callOk Tryz.prog 14 = true := by kernel_rfl
theorem co15 : callOk Tryz.prog 15 = true := by kernel_rfl
theorem co16 : callOk Tryz.prog 16 = true := by kernel_rfl
theorem co17 : callOk Tryz.prog 17 = true := by kernel_rfl
theorem co18 : callOk Tryz.prog 18 = true := by kernel_rfl
theorem co19 : callOk Tryz.prog 19 = true := by kernel_rfl
theorem co20 : callOk Tryz.prog 20 = true := by kernel_rfl
theorem co21 : callOk Tryz.prog 21 = true := by kernel_rfl
theorem co22 : callOk Tryz.prog 22 = true := by kernel_rfl
theorem co23 : callOk Tryz.prog 23 = true := by kernel_rfl
theorem co24 : callOk Tryz.prog 24 = true := by kernel_rfl
theorem co25 : callOk Tryz.prog 25 = true := by kernel_rfl
theorem co26 : callOk Tryz.prog 26 = true := by kernel_rfl
theorem co27 : callOk Tryz.prog 27 = true := by kernel_rfl
theorem co28 : callOk Tryz.prog 28 = true := by kernel_rfl
theorem co29 : callOk Tryz.prog 29 = true := by kernel_rfl
theorem co30 : callOk Tryz.prog 30 = true := by kernel_rfl
theorem co31 : callOk Tryz.prog 31 = true := by kernel_rfl
theorem co32 : callOk Tryz.prog 32 = true := by kernel_rfl
theorem co33 : callOk Tryz.prog 33 = true := by kernel_rfl
theorem co34 : callOk Tryz.prog 34 = true := by kernel_rfl
theorem co35 : callOk Tryz.prog 35 = true := by kernel_rfl
theorem co36 : callOk Tryz.prog 36 = true := by kernel_rfl
theorem co37 : callOk Tryz.prog 37 = true := by kernel_rfl
theorem co38 : callOk Tryz.prog 38 = true := by kernel_rfl
theorem co40 : callOk Tryz.prog 40 = true := by kernel_rfl
theorem co41 : callOk Tryz.prog 41 = true := by kernel_rfl
theorem co42 : callOk Tryz.prog 42 = true := by kernel_rfl
theorem co43 : callOk Tryz.prog 43 = true := by kernel_rfl
theorem co44 : callOk Tryz.prog 44 = true := by kernel_rfl
theorem co45 : callOk Tryz.prog 45 = true := by kernel_rfl
theorem co46 : callOk Tryz.prog 46 = true := by kernel_rfl
theorem co47 : callOk Tryz.prog 47 = true := by kernel_rfl
theorem co48 : callOk Tryz.prog 48 = true := by kernel_rfl
theorem co49 : callOk Tryz.prog 49 = true := by kernel_rfl
theorem co50 : callOk Tryz.prog 50 = true := by kernel_rfl
theorem co51 : callOk Tryz.prog 51 = true := by kernel_rfl
theorem co52 : callOk Tryz.prog 52 = true := by kernel_rfl
theorem co53 : callOk Tryz.prog 53 = true := by kernel_rfl
theorem co54 : callOk Tryz.prog 54 = true := by kernel_rfl
theorem co55 : callOk Tryz.prog 55 = true := by kernel_rfl
theorem co56 : callOk Tryz.prog 56 = true := by kernel_rfl
theorem co57 : callOk Tryz.prog 57 = true := by kernel_rfl
theorem co58 : callOk Tryz.prog 58 = true := by kernel_rfl
theorem co59 : callOk Tryz.prog 59 = true := by kernel_rfl
theorem co6 : callOk Tryz.prog 6 = true := by kernel_rfl
theorem co60 : callOk Tryz.prog 60 = true := by kernel_rfl
theorem co61 : callOk Tryz.prog 61 = true := by kernel_rfl
theorem co62 : callOk Tryz.prog 62 = true := by kernel_rfl
theorem co63 : callOk Tryz.prog 63 = true := by kernel_rfl
theorem co64 : callOk Tryz.prog 64 = true := by kernel_rfl
theorem co65 : callOk Tryz.prog 65 = true := by kernel_rfl
theorem co66 : callOk Tryz.prog 66 = true := by kernel_rfl
theorem co67 : callOk Tryz.prog 67 = true := by kernel_rfl
theorem co68 : callOk Tryz.prog 68 = true := by kernel_rfl
theorem co69 : callOk Tryz.prog 69 = true := by kernel_rfl
theorem co7 : callOk Tryz.prog 7 = true := by kernel_rfl
theorem co70 : callOk Tryz.prog 70 = true := by kernel_rfl
theorem co71 : callOk Tryz.prog 71 = true := by kernel_rfl
theorem co72 : callOk Tryz.prog 72 = true := by kernel_rfl
theorem co74 : callOk Tryz.prog 74 = true := by kernel_rfl
theorem co75 : callOk Tryz.prog 75 = true := by kernel_rfl
theorem co76 : callOk Tryz.prog 76 = true := by kernel_rfl
theorem co77 : callOk Tryz.prog 77 = true := by kernel_rfl
theorem co78 : callOk Tryz.prog 78 = true := by kernel_rfl
theorem co79 : callOk Tryz.prog 79 = true := by kernel_rfl
theorem co8 : callOk Tryz.prog 8 = true := by kernel_rfl
theorem co80 : callOk Tryz.prog 80 = true := by kernel_rfl
theorem co81 : callOk Tryz.prog 81 = true := by kernel_rfl
theorem co82 : callOk Tryz.prog 82 = true := by kernel_rfl
theorem co83 : callOk Tryz.prog 83 = true := by kernel_rfl
theorem co84 : callOk Tryz.prog 84 = true := by kernel_rfl
theorem co85 : callOk Tryz.prog 85 = true := by kernel_rfl
theorem co86 : callOk Tryz.prog 86 = true := by kernel_rfl
theorem co87 : callOk Tryz.prog 87 = true := by kernel_rfl
theorem co88 : callOk Tryz.prog 88 = true := by kernel_rfl
theorem co89 : callOk Tryz.prog 89 = true := by kernel_rfl
theorem co9 : callOk Tryz.prog 9 = true := by kernel_rfl
theorem co90 : callOk Tryz.prog 90 = true := by kernel_rfl
theorem co91 : callOk Tryz.prog 91 = true := by kernel_rfl
theorem co92 : callOk Tryz.prog 92 = true := by kernel_rfl
theorem co93 : callOk Tryz.prog 93 = true := by kernel_rfl
theorem co94 : callOk Tryz.prog 94 = true := by kernel_rfl
theorem co95 : callOk Tryz.prog 95 = true := by kernel_rfl
theorem co96 : callOk Tryz.prog 96 = true := by kernel_rfl
theorem co97 : callOk Tryz.prog 97 = true := by kernel_rfl
theorem co98 : callOk Tryz.prog 98 = true := by kernel_rfl
theorem co99 : callOk Tryz.prog 99 = true := by kernel_rfl
theorem fo104_2 : fldOff Tryz.prog 104 2 = some 2 := by kernel_rfl
theorem fo29_0 : fldOff Tryz.prog 29 0 = some 0 := by kernel_rfl
theorem fo29_1 : fldOff Tryz.prog 29 1 = some 1 := by kernel_rfl
theorem fo29_2 : fldOff Tryz.prog 29 2 = some 2 := by kernel_rfl
theorem fo29_3 : fldOff Tryz.prog 29 3 = some 3 := by kernel_rfl
theorem fo29_4 : fldOff Tryz.prog 29 4 = some 4 := by kernel_rfl
theorem fo45_0 : fldOff Tryz.prog 45 0 = some 0 := by kernel_rfl
theorem fo45_1 : fldOff Tryz.prog 45 1 = some 1 := by kernel_rfl
theorem fo45_10 : fldOff Tryz.prog 45 10 = some 10 := by kernel_rfl
theorem fo45_11 : fldOff Tryz.prog 45 11 = some 11 := by kernel_rfl
theorem fo45_12 : fldOff Tryz.prog 45 12 = some 12 := by kernel_rfl
theorem fo45_13 : fldOff Tryz.prog 45 13 = some 13 := by kernel_rfl
theorem fo45_14 : fldOff Tryz.prog 45 14 = some 14 := by kernel_rfl
theorem fo45_15 : fldOff Tryz.prog 45 15 = some 15 := by kernel_rfl
theorem fo45_16 : fldOff Tryz.prog 45 16 = some 16 := by kernel_rfl
theorem fo45_17 : fldOff Tryz.prog 45 17 = some 17 := by kernel_rfl
theorem fo45_2 : fldOff Tryz.prog 45 2 = some 2 := by kernel_rfl
theorem fo45_3 : fldOff Tryz.prog 45 3 = some 3 := by kernel_rfl
theorem fo45_4 : fldOff Tryz.prog 45 4 = some 4 := by kernel_rfl
theorem fo45_5 : fldOff Tryz.prog 45 5 = some 5 := by kernel_rfl
theorem fo45_6 : fldOff Tryz.prog 45 6 = some 6 := by kernel_rfl
theorem fo45_7 : fldOff Tryz.prog 45 7 = some 7 := by kernel_rfl
theorem fo45_8 : fldOff Tryz.prog 45 8 = some 8 := by kernel_rfl
theorem fo45_9 : fldOff Tryz.prog 45 9 = some 9 := by kernel_rfl
theorem fo52_0 : fldOff Tryz.prog 52 0 = some 0 := by kernel_rfl
theorem fo52_1 : fldOff Tryz.prog 52 1 = some 1 := by kernel_rfl
theorem fo52_2 : fldOff Tryz.prog 52 2 = some 2 := by kernel_rfl
theorem fo54_0 : fldOff Tryz.prog 54 0 = some 0 := by kernel_rfl
theorem fo54_1 : fldOff Tryz.prog 54 1 = some 1 := by kernel_rfl
theorem fo54_2 : fldOff Tryz.prog 54 2 = some 2 := by kernel_rfl
theorem fo54_3 : fldOff Tryz.prog 54 3 = some 3 := by kernel_rfl
theorem fo54_4 : fldOff Tryz.prog 54 4 = some 4 := by kernel_rfl
theorem fo54_5 : fldOff Tryz.prog 54 5 = some 5 := by kernel_rfl
theorem fo59_0 : fldOff Tryz.prog 59 0 = some 0 := by kernel_rfl
theorem fo59_1 : fldOff Tryz.prog 59 1 = some 1 := by kernel_rfl
theorem fo59_2 : fldOff Tryz.prog 59 2 = some 2 := by kernel_rfl
theorem fo59_3 : fldOff Tryz.prog 59 3 = some 3 := by kernel_rfl
theorem fo59_4 : fldOff Tryz.prog 59 4 = some 4 := by kernel_rfl
theorem fo64_0 : fldOff Tryz.prog 64 0 = some 0 := by kernel_rfl
theorem fo64_1 : fldOff Tryz.prog 64 1 = some 1 := by kernel_rfl
theorem fo64_2 : fldOff Tryz.prog 64 2 = some 2 := by kernel_rfl
theorem fo66_0 : fldOff Tryz.prog 66 0 = some 0 := by kernel_rfl
theorem fo66_1 : fldOff Tryz.prog 66 1 = some 1 := by kernel_rfl
theorem fo66_2 : fldOff Tryz.prog 66 2 = some 2 := by kernel_rfl
theorem fo89_2 : fldOff Tryz.prog 89 2 = some 2 := by kernel_rfl
theorem fo99_0 : fldOff Tryz.prog 99 0 = some 0 := by kernel_rfl
theorem fo99_1 : fldOff Tryz.prog 99 1 = some 1 := by kernel_rfl
theorem fo99_2 : fldOff Tryz.prog 99 2 = some 2 := by kernel_rfl
theorem fp104 : fldPlace Tryz.prog 104 = some [(0, 1), (1, 1), (2, 1)] := by kernel_rfl
theorem fp29 : fldPlace Tryz.prog 29 = some [(0, 1), (1, 1), (2, 1), (3, 1), (4, 1)] := by kernel_rfl
theorem fp45 : fldPlace Tryz.prog 45 = some [(0, 1), (1, 1), (2, 1), (3, 1), (4, 1), (5, 1), (6, 1), (7, 1), (8, 1), (9, 1), (10, 1), (11, 1), (12, 1), (13, 1), (14, 1), (15, 1), (16, 1), (17, 1)] := by kernel_rfl
theorem fp52 : fldPlace Tryz.prog 52 = some [(0, 1), (1, 1), (2, 1)] := by kernel_rfl
theorem fp54 : fldPlace Tryz.prog 54 = some [(0, 1), (1, 1), (2, 1), (3, 1), (4, 1), (5, 1)] := by kernel_rfl
theorem fp59 : fldPlace Tryz.prog 59 = some [(0, 1), (1, 1), (2, 1), (3, 1), (4, 1)] := by kernel_rfl
theorem fp64 : fldPlace Tryz.prog 64 = some [(0, 1), (1, 1), (2, 1)] := by kernel_rfl
theorem fp66 : fldPlace Tryz.prog 66 = some [(0, 1), (1, 1), (2, 1)] := by kernel_rfl
theorem fp89 : fldPlace Tryz.prog 89 = some [(0, 1), (1, 1), (2, 1)] := by kernel_rfl
theorem fp99 : fldPlace Tryz.prog 99 = some [(0, 1), (1, 1), (2, 1)] := by kernel_rfl
theorem ha104_140 (v : Value) (xT : TypeId) (w : World) : (Instr.typeAssert (.iface 104 v) xT 140 true).run Tryz.prog w = .ok (.tuple #[.iface 104 v, .bool true]) w := run_typeAssert_hasB Tryz.underlying140 (by kernel_rfl) v xT w
theorem in3 : (Tryz.prog.info? 3).map (fun i => (i.size, i.bytes, i.zero)) = some (1, 8, some (.int .i64 (0 : Int))) := by kernel_rfl
theorem in5 : (Tryz.prog.info? 5).map (fun i => (i.size, i.bytes, i.zero)) = some (1, 1, some (.int .u8 (0 : Int))) := by kernel_rfl
theorem in52 : (Tryz.prog.info? 52).map (fun i => (i.size, i.bytes, i.zero)) = some (3, 48, some (.agg #[(.int .i64 (0 : Int)), (.string (⟨#[]⟩ : ByteArray)), (.slice none 0 0)])) := by kernel_rfl
theorem in54 : (Tryz.prog.info? 54).map (fun i => (i.size, i.bytes, i.zero)) = some (6, 112, some (.agg #[(.slice none 0 0), (.slice none 0 0), (.int .i64 (0 : Int)), (.int .i64 (0 : Int)), (.slice none 0 0), (.slice none 0 0)])) := by kernel_rfl
theorem in59 : (Tryz.prog.info? 59).map (fun i => (i.size, i.bytes, i.zero)) = some (5, 40, some (.agg #[(.int .i64 (0 : Int)), (.int .i64 (0 : Int)), (.string (⟨#[]⟩ : ByteArray)), (.bool false), (.bool false)])) := by kernel_rfl
theorem in64 : (Tryz.prog.info? 64).map (fun i => (i.size, i.bytes, i.zero)) = some (3, 40, some (.agg #[(.int .i64 (0 : Int)), (.string (⟨#[]⟩ : ByteArray)), (.string (⟨#[]⟩ : ByteArray))])) := by kernel_rfl
theorem in66 : (Tryz.prog.info? 66).map (fun i => (i.size, i.bytes, i.zero)) = some (3, 24, some (.agg #[(.int .i64 (0 : Int)), (.int .i64 (0 : Int)), (.int .i64 (0 : Int))])) := by kernel_rfl
theorem iz3 : (Tryz.prog.info? 3).map (fun i => (i.size, i.zero)) = some (1, some (.int .i64 (0 : Int))) := by kernel_rfl
theorem iz43 : (Tryz.prog.info? 43).map (fun i => (i.size, i.zero)) = some (1, some (.slice none 0 0)) := by kernel_rfl
theorem iz45 : (Tryz.prog.info? 45).map (fun i => (i.size, i.zero)) = some (18, some (.agg #[(.int .i64 (0 : Int)), (.int .i64 (0 : Int)), (.int .i64 (0 : Int)), (.int .i64 (0 : Int)), (.int .i64 (0 : Int)), (.int .i64 (0 : Int)), (.int .i64 (0 : Int)), (.int .i64 (0 : Int)), (.int .i64 (0 : Int)), (.bool false), (.string (⟨#[]⟩ : ByteArray)), (.string (⟨#[]⟩ : ByteArray)), (.string (⟨#[]⟩ : ByteArray)), (.string (⟨#[]⟩ : ByteArray)), (.slice none 0 0), (.slice none 0 0), (.slice none 0 0), (.slice none 0 0)])) := by kernel_rfl
theorem iz5 : (Tryz.prog.info? 5).map (fun i => (i.size, i.zero)) = some (1, some (.int .u8 (0 : Int))) := by kernel_rfl
theorem iz52 : (Tryz.prog.info? 52).map (fun i => (i.size, i.zero)) = some (3, some (.agg #[(.int .i64 (0 : Int)), (.string (⟨#[]⟩ : ByteArray)), (.slice none 0 0)])) := by kernel_rfl
theorem iz54 : (Tryz.prog.info? 54).map (fun i => (i.size, i.zero)) = some (6, some (.agg #[(.slice none 0 0), (.slice none 0 0), (.int .i64 (0 : Int)), (.int .i64 (0 : Int)), (.slice none 0 0), (.slice none 0 0)])) := by kernel_rfl
theorem iz59 : (Tryz.prog.info? 59).map (fun i => (i.size, i.zero)) = some (5, some (.agg #[(.int .i64 (0 : Int)), (.int .i64 (0 : Int)), (.string (⟨#[]⟩ : ByteArray)), (.bool false), (.bool false)])) := by kernel_rfl
theorem iz64 : (Tryz.prog.info? 64).map (fun i => (i.size, i.zero)) = some (3, some (.agg #[(.int .i64 (0 : Int)), (.string (⟨#[]⟩ : ByteArray)), (.string (⟨#[]⟩ : ByteArray))])) := by kernel_rfl
theorem iz66 : (Tryz.prog.info? 66).map (fun i => (i.size, i.zero)) = some (3, some (.agg #[(.int .i64 (0 : Int)), (.int .i64 (0 : Int)), (.int .i64 (0 : Int))])) := by kernel_rfl
theorem la0_137 (v : Value) (xT : TypeId) (w : World) : (Instr.typeAssert (.iface 0 v) xT 137 true).run Tryz.prog w = .ok (.tuple #[.nilIface, .bool false]) w := run_typeAssert_lacksB Tryz.underlying137 (by kernel_rfl) (by kernel_rfl) v xT w
theorem la0_140 (v : Value) (xT : TypeId) (w : World) : (Instr.typeAssert (.iface 0 v) xT 140 true).run Tryz.prog w = .ok (.tuple #[.nilIface, .bool false]) w := run_typeAssert_lacksB Tryz.underlying140 (by kernel_rfl) (by kernel_rfl) v xT w
theorem la0_141 (v : Value) (xT : TypeId) (w : World) : (Instr.typeAssert (.iface 0 v) xT 141 true).run Tryz.prog w = .ok (.tuple #[.nilIface, .bool false]) w := run_typeAssert_lacksB Tryz.underlying141 (by kernel_rfl) (by kernel_rfl) v xT w
theorem la104_137 (v : Value) (xT : TypeId) (w : World) : (Instr.typeAssert (.iface 104 v) xT 137 true).run Tryz.prog w = .ok (.tuple #[.nilIface, .bool false]) w := run_typeAssert_lacksB Tryz.underlying137 (by kernel_rfl) (by kernel_rfl) v xT w
theorem la40_137 (v : Value) (xT : TypeId) (w : World) : (Instr.typeAssert (.iface 40 v) xT 137 true).run Tryz.prog w = .ok (.tuple #[.nilIface, .bool false]) w := run_typeAssert_lacksB Tryz.underlying137 (by kernel_rfl) (by kernel_rfl) v xT w
theorem la40_140 (v : Value) (xT : TypeId) (w : World) : (Instr.typeAssert (.iface 40 v) xT 140 true).run Tryz.prog w = .ok (.tuple #[.nilIface, .bool false]) w := run_typeAssert_lacksB Tryz.underlying140 (by kernel_rfl) (by kernel_rfl) v xT w
theorem la40_141 (v : Value) (xT : TypeId) (w : World) : (Instr.typeAssert (.iface 40 v) xT 141 true).run Tryz.prog w = .ok (.tuple #[.nilIface, .bool false]) w := run_typeAssert_lacksB Tryz.underlying141 (by kernel_rfl) (by kernel_rfl) v xT w
theorem me104_Unwrap (v : Value) (w : World) : (method (mdepth Tryz.prog) 104 v "Unwrap").run Tryz.prog w = .ok (126, v) w := by kernel_rfl
theorem mm_Comparable (h : Value) (w : World) : (method (mdepth Tryz.prog) 135 (.agg #[h]) "Comparable").run Tryz.prog w = .ok (130, .agg #[h]) w := by kernel_rfl
theorem mr_Comparable_40 (w : World) : ((Extern.ReflectliteType.method fun t => do Extern.Rtype.noPackHeld "Comparable" t; pure (.bool (← typeInfo t).comparable)) #[.agg #[(.pointer (some ⟨0, 40, none⟩))]]).run Tryz.prog w = .ok (.bool true) w := by kernel_rfl
theorem pl154 : plainT Tryz.prog 154 = true := by kernel_rfl
theorem pl157 : plainT Tryz.prog 157 = true := by kernel_rfl
theorem pl24 : plainT Tryz.prog 24 = true := by kernel_rfl
theorem pl25 : plainT Tryz.prog 25 = true := by kernel_rfl
theorem pl26 : plainT Tryz.prog 26 = true := by kernel_rfl
theorem pl27 : plainT Tryz.prog 27 = true := by kernel_rfl
theorem pl3 : plainT Tryz.prog 3 = true := by kernel_rfl
theorem pl31 : plainT Tryz.prog 31 = true := by kernel_rfl
theorem pl33 : plainT Tryz.prog 33 = true := by kernel_rfl
theorem pl4 : plainT Tryz.prog 4 = true := by kernel_rfl
theorem pl40 : plainT Tryz.prog 40 = true := by kernel_rfl
theorem pl43 : plainT Tryz.prog 43 = true := by kernel_rfl
theorem pl5 : plainT Tryz.prog 5 = true := by kernel_rfl
theorem pl50 : plainT Tryz.prog 50 = true := by kernel_rfl
theorem pl67 : plainT Tryz.prog 67 = true := by kernel_rfl
theorem pl70 : plainT Tryz.prog 70 = true := by kernel_rfl
theorem pl72 : plainT Tryz.prog 72 = true := by kernel_rfl
theorem pl74 : plainT Tryz.prog 74 = true := by kernel_rfl
theorem pl77 : plainT Tryz.prog 77 = true := by kernel_rfl
theorem pl9 : plainT Tryz.prog 9 = true := by kernel_rfl
theorem pl97 : plainT Tryz.prog 97 = true := by kernel_rfl
theorem sz24 : (Tryz.prog.info? 24).map (·.size) = some 1 := by kernel_rfl
theorem sz25 : (Tryz.prog.info? 25).map (·.size) = some 1 := by kernel_rfl
theorem sz26 : (Tryz.prog.info? 26).map (·.size) = some 1 := by kernel_rfl
theorem sz27 : (Tryz.prog.info? 27).map (·.size) = some 1 := by kernel_rfl
theorem sz29 : (Tryz.prog.info? 29).map (·.size) = some 5 := by kernel_rfl
theorem sz3 : (Tryz.prog.info? 3).map (·.size) = some 1 := by kernel_rfl
theorem sz31 : (Tryz.prog.info? 31).map (·.size) = some 1 := by kernel_rfl
theorem sz33 : (Tryz.prog.info? 33).map (·.size) = some 1 := by kernel_rfl
theorem sz4 : (Tryz.prog.info? 4).map (·.size) = some 1 := by kernel_rfl
theorem sz43 : (Tryz.prog.info? 43).map (·.size) = some 1 := by kernel_rfl
theorem sz45 : (Tryz.prog.info? 45).map (·.size) = some 18 := by kernel_rfl
theorem sz5 : (Tryz.prog.info? 5).map (·.size) = some 1 := by kernel_rfl
theorem sz50 : (Tryz.prog.info? 50).map (·.size) = some 1 := by kernel_rfl
theorem sz52 : (Tryz.prog.info? 52).map (·.size) = some 3 := by kernel_rfl
theorem sz54 : (Tryz.prog.info? 54).map (·.size) = some 6 := by kernel_rfl
theorem sz59 : (Tryz.prog.info? 59).map (·.size) = some 5 := by kernel_rfl
theorem sz64 : (Tryz.prog.info? 64).map (·.size) = some 3 := by kernel_rfl
theorem sz66 : (Tryz.prog.info? 66).map (·.size) = some 3 := by kernel_rfl
theorem sz67 : (Tryz.prog.info? 67).map (·.size) = some 1 := by kernel_rfl
theorem sz70 : (Tryz.prog.info? 70).map (·.size) = some 1 := by kernel_rfl
theorem sz72 : (Tryz.prog.info? 72).map (·.size) = some 1 := by kernel_rfl
theorem sz74 : (Tryz.prog.info? 74).map (·.size) = some 1 := by kernel_rfl
theorem sz77 : (Tryz.prog.info? 77).map (·.size) = some 1 := by kernel_rfl
theorem sz89 : (Tryz.prog.info? 89).map (·.size) = some 3 := by kernel_rfl
theorem sz95 : (Tryz.prog.info? 95).map (·.size) = some 2 := by kernel_rfl
theorem sz97 : (Tryz.prog.info? 97).map (·.size) = some 1 := by kernel_rfl
theorem ty40 (v : Value) (w : World) : (Extern.ReflectliteType.typeOf #[.iface 40 v]).run Tryz.prog w = .ok (.iface 135 (.agg #[(.pointer (some ⟨0, 40, none⟩))])) w := by kernel_rfl
theorem us129 : (Tryz.prog.underlying 129).isSome = true := by kernel_rfl
theorem us3 : (Tryz.prog.underlying 3).isSome = true := by kernel_rfl
theorem us47 : (Tryz.prog.underlying 47).isSome = true := by kernel_rfl
theorem us5 : (Tryz.prog.underlying 5).isSome = true := by kernel_rfl
theorem us97 : (Tryz.prog.underlying 97).isSome = true := by kernel_rfl
theorem xt130 : ExtOk Tryz.prog 130 (Extern.ReflectliteType.method fun t => do Extern.Rtype.noPackHeld "Comparable" t; pure (.bool (← typeInfo t).comparable)) := fun args w => run_callFunc_extern (e := (Extern.ReflectliteType.method fun t => do Extern.Rtype.noPackHeld "Comparable" t; pure (.bool (← typeInfo t).comparable))) Tryz.func130 (by kernel_rfl) (by kernel_rfl) (by kernel_rfl) (by kernel_rfl) args w
theorem xt73 : ExtOk Tryz.prog 73 Extern.ReflectliteType.typeOf := fun args w => run_callFunc_extern (e := Extern.ReflectliteType.typeOf) Tryz.func73 (by kernel_rfl) (by kernel_rfl) (by kernel_rfl) (by kernel_rfl) args w
theorem ze104 : (Tryz.prog.info? 104).map (·.zero) = some (some (.agg #[(.string (⟨#[]⟩ : ByteArray)), (.int .i64 (0 : Int)), (.nilIface)])) := by kernel_rfl
theorem ze29 : (Tryz.prog.info? 29).map (·.zero) = some (some (.agg #[(.slice none 0 0), (.slice none 0 0), (.slice none 0 0), (.slice none 0 0), (.int .i64 (0 : Int))])) := by kernel_rfl
theorem ze3 : (Tryz.prog.info? 3).map (·.zero) = some (some (.int .i64 (0 : Int))) := by kernel_rfl
theorem ze31 : (Tryz.prog.info? 31).map (·.zero) = some (some (.slice none 0 0)) := by kernel_rfl
theorem ze45 : (Tryz.prog.info? 45).map (·.zero) = some (some (.agg #[(.int .i64 (0 : Int)), (.int .i64 (0 : Int)), (.int .i64 (0 : Int)), (.int .i64 (0 : Int)), (.int .i64 (0 : Int)), (.int .i64 (0 : Int)), (.int .i64 (0 : Int)), (.int .i64 (0 : Int)), (.int .i64 (0 : Int)), (.bool false), (.string (⟨#[]⟩ : ByteArray)), (.string (⟨#[]⟩ : ByteArray)), (.string (⟨#[]⟩ : ByteArray)), (.string (⟨#[]⟩ : ByteArray)), (.slice none 0 0), (.slice none 0 0), (.slice none 0 0), (.slice none 0 0)])) := by kernel_rfl
theorem ze52 : (Tryz.prog.info? 52).map (·.zero) = some (some (.agg #[(.int .i64 (0 : Int)), (.string (⟨#[]⟩ : ByteArray)), (.slice none 0 0)])) := by kernel_rfl
theorem ze54 : (Tryz.prog.info? 54).map (·.zero) = some (some (.agg #[(.slice none 0 0), (.slice none 0 0), (.int .i64 (0 : Int)), (.int .i64 (0 : Int)), (.slice none 0 0), (.slice none 0 0)])) := by kernel_rfl
theorem ze59 : (Tryz.prog.info? 59).map (·.zero) = some (some (.agg #[(.int .i64 (0 : Int)), (.int .i64 (0 : Int)), (.string (⟨#[]⟩ : ByteArray)), (.bool false), (.bool false)])) := by kernel_rfl
theorem ze64 : (Tryz.prog.info? 64).map (·.zero) = some (some (.agg #[(.int .i64 (0 : Int)), (.string (⟨#[]⟩ : ByteArray)), (.string (⟨#[]⟩ : ByteArray))])) := by kernel_rfl
theorem ze66 : (Tryz.prog.info? 66).map (·.zero) = some (some (.agg #[(.int .i64 (0 : Int)), (.int .i64 (0 : Int)), (.int .i64 (0 : Int))])) := by kernel_rfl
theorem ze67 : (Tryz.prog.info? 67).map (·.zero) = some (some (.pointer none)) := by kernel_rfl
theorem ze70 : (Tryz.prog.info? 70).map (·.zero) = some (some .nilFunc) := by kernel_rfl
theorem ze72 : (Tryz.prog.info? 72).map (·.zero) = some (some .nilFunc) := by kernel_rfl
theorem ze74 : (Tryz.prog.info? 74).map (·.zero) = some (some .nilFunc) := by kernel_rfl
theorem ze77 : (Tryz.prog.info? 77).map (·.zero) = some (some .nilFunc) := by kernel_rfl
theorem ze89 : (Tryz.prog.info? 89).map (·.zero) = some (some (.agg #[(.string (⟨#[]⟩ : ByteArray)), (.int .i64 (0 : Int)), (.int .i64 (0 : Int))])) := by kernel_rfl
theorem ze95 : (Tryz.prog.info? 95).map (·.zero) = some (some (.agg #[(.int .i64 (0 : Int)), (.int .i64 (0 : Int))])) := by kernel_rfl
theorem ze97 : (Tryz.prog.info? 97).map (·.zero) = some (some (.int .u64 (0 : Int))) := by kernel_rfl
theorem ze99 : (Tryz.prog.info? 99).map (·.zero) = some (some (.agg #[(.slice none 0 0), (.int .i64 (0 : Int)), (.nilIface)])) := by kernel_rfl
theorem zo137 : (Tryz.prog.info? 137).map (·.zero) = some (some .nilIface) := by kernel_rfl
theorem zo140 : (Tryz.prog.info? 140).map (·.zero) = some (some .nilIface) := by kernel_rfl
theorem zo141 : (Tryz.prog.info? 141).map (·.zero) = some (some .nilIface) := by kernel_rfl
theorem mixed : Tryz.prog.follows .mixedOrders = true := by kernel_rfl

abbrev lit6_ : T_api_Record := ⟨(4 : Int), (2 : Int), (1 : Int), (0 : Int), (0 : Int), (0 : Int), (0 : Int), (0 : Int), (0 : Int), false, (⟨#[]⟩ : ByteArray), (⟨#[]⟩ : ByteArray), (⟨#[]⟩ : ByteArray), (⟨#[]⟩ : ByteArray), [], [], [], []⟩
abbrev lit5_ : T_api_Record := ⟨(4 : Int), (1 : Int), (1 : Int), (0 : Int), (0 : Int), (0 : Int), (0 : Int), (0 : Int), (0 : Int), false, (⟨#[]⟩ : ByteArray), (⟨#[]⟩ : ByteArray), (⟨#[]⟩ : ByteArray), (⟨#[]⟩ : ByteArray), [], [], [], []⟩
abbrev lit4_ : T_api_Record := ⟨(2 : Int), (2 : Int), (1 : Int), (0 : Int), (0 : Int), (0 : Int), (0 : Int), (0 : Int), (0 : Int), false, (⟨#[]⟩ : ByteArray), (⟨#[]⟩ : ByteArray), (⟨#[]⟩ : ByteArray), (⟨#[98]⟩ : ByteArray), [], [], [], []⟩
abbrev lit3_ : T_api_Record := ⟨(2 : Int), (1 : Int), (1 : Int), (0 : Int), (0 : Int), (0 : Int), (0 : Int), (0 : Int), (0 : Int), false, (⟨#[]⟩ : ByteArray), (⟨#[]⟩ : ByteArray), (⟨#[]⟩ : ByteArray), (⟨#[97]⟩ : ByteArray), [], [], [], []⟩
abbrev lit2_ : T_api_Record := ⟨(7 : Int), (0 : Int), (0 : Int), (1 : Int), (0 : Int), (0 : Int), (0 : Int), (0 : Int), (0 : Int), false, (⟨#[116]⟩ : ByteArray), (⟨#[]⟩ : ByteArray), (⟨#[]⟩ : ByteArray), (⟨#[]⟩ : ByteArray), [], [], [], []⟩
abbrev lit1_ : T_api_Record := ⟨(8 : Int), (0 : Int), (0 : Int), (1 : Int), (0 : Int), (1 : Int), (0 : Int), (0 : Int), (0 : Int), false, (⟨#[]⟩ : ByteArray), (⟨#[]⟩ : ByteArray), (⟨#[]⟩ : ByteArray), (⟨#[]⟩ : ByteArray), [(1 : Int), (2 : Int)], [(1 : Int), (2 : Int)], [], []⟩
end Go.Proofs.YtpcbipcdfccnnaaGreat.G
