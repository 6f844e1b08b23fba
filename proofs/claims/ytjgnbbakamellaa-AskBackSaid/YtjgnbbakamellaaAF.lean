/- Closed facts on the program's types. Printed by a program of the session (gen). -/
import Derived.Test.YtjgnbbakamellaaAT
import Derived.Test.YtjgnbbakamellaaProg
set_option linter.unusedVariables false
set_option linter.unusedSimpArgs false
namespace Go.Proofs.Ytjgnbbakamellaa.G
open Go Go.KK

theorem ag24 : aggB Try.prog 24 = true := by kernel_rfl
theorem ag26 : aggB Try.prog 26 = true := by kernel_rfl
theorem ag28 : aggB Try.prog 28 = true := by kernel_rfl
theorem ag30 : aggB Try.prog 30 = true := by kernel_rfl
theorem ag35 : aggB Try.prog 35 = true := by kernel_rfl
theorem ag66 : aggB Try.prog 66 = true := by kernel_rfl
theorem ag68 : aggB Try.prog 68 = true := by kernel_rfl
theorem cc49 : Try.prog.concrete 49 = true := by kernel_rfl
theorem cc79 : Try.prog.concrete 79 = true := by kernel_rfl
theorem cm49 : (Try.prog.info? 49).map (·.comparable) = some true := by kernel_rfl
theorem co10 : callOk Try.prog 10 = true := by kernel_rfl
theorem co11 : callOk Try.prog 11 = true := by kernel_rfl
theorem co12 : callOk Try.prog 12 = true := by kernel_rfl
theorem co13 : callOk Try.prog 13 = true := by kernel_rfl
theorem co14 : callOk Try.prog 14 = true := by kernel_rfl
theorem co15 : callOk Try.prog 15 = true := by kernel_rfl
theorem co16 : callOk Try.prog 16 = true := by kernel_rfl
theorem co17 : callOk Try.prog 17 = true := by kernel_rfl
theorem co18 : callOk Try.prog 18 = true := by kernel_rfl
theorem co19 : callOk Try.prog 19 = true := by kernel_rfl
theorem co20 : callOk Try.prog 20 = true := by kernel_rfl
theorem co21 : callOk Try.prog 21 = true := by kernel_rfl
theorem co22 : callOk Try.prog 22 = true := by kernel_rfl
theorem co23 : callOk Try.prog 23 = true := by kernel_rfl
theorem co24 : callOk Try.prog 24 = true := by kernel_rfl
theorem co25 : callOk Try.prog 25 = true := by kernel_rfl
theorem co26 : callOk Try.prog 26 = true := by kernel_rfl
theorem co27 : callOk Try.prog 27 = true := by kernel_rfl
theorem co28 : callOk Try.prog 28 = true := by kernel_rfl
theorem co29 : callOk Try.prog 29 = true := by kernel_rfl
theorem co30 : callOk Try.prog 30 = true := by kernel_rfl
theorem co31 : callOk Try.prog 31 = true := by kernel_rfl
theorem co32 : callOk Try.prog 32 = true := by kernel_rfl
theorem co33 : callOk Try.prog 33 = true := by kernel_rfl
theorem co34 : callOk Try.prog 34 = true := by kernel_rfl
theorem co35 : callOk Try.prog 35 = true := by kernel_rfl
theorem co36 : callOk Try.prog 36 = true := by kernel_rfl
theorem co37 : callOk Try.prog 37 = true := by kernel_rfl
theorem co38 : callOk Try.prog 38 = true := by kernel_rfl
theorem co39 : callOk Try.prog 39 = true := by kernel_rfl
theorem co4 : callOk Try.prog 4 = true := by kernel_rfl
theorem co40 : callOk Try.prog 40 = true := by kernel_rfl
theorem co41 : callOk Try.prog 41 = true := by kernel_rfl
theorem co42 : callOk Try.prog 42 = true := by kernel_rfl
theorem co43 : callOk Try.prog 43 = true := by kernel_rfl
theorem co44 : callOk Try.prog 44 = true := by kernel_rfl
theorem co45 : callOk Try.prog 45 = true := by kernel_rfl
theorem co47 : callOk Try.prog 47 = true := by kernel_rfl
theorem co48 : callOk Try.prog 48 = true := by kernel_rfl
theorem co49 : callOk Try.prog 49 = true := by kernel_rfl
theorem co5 : callOk Try.prog 5 = true := by kernel_rfl
theorem co50 : callOk Try.prog 50 = true := by kernel_rfl
theorem co6 : callOk Try.prog 6 = true := by kernel_rfl
theorem co69 : callOk Try.prog 69 = true := by kernel_rfl
theorem co7 : callOk Try.prog 7 = true := by kernel_rfl
theorem co8 : callOk Try.prog 8 = true := by kernel_rfl
theorem co9 : callOk Try.prog 9 = true := by kernel_rfl
theorem eg24 : Try.prog.eqGuardType Try.prog.depth 24 = false := by kernel_rfl
theorem eg30 : Try.prog.eqGuardType Try.prog.depth 30 = false := by kernel_rfl
theorem eg66 : Try.prog.eqGuardType Try.prog.depth 66 = false := by kernel_rfl
theorem eg68 : Try.prog.eqGuardType Try.prog.depth 68 = false := by kernel_rfl
theorem eq24 : eqStruct Try.prog 24 = true := by kernel_rfl
theorem eq28 : eqStruct Try.prog 28 = true := by kernel_rfl
theorem eq30 : eqStruct Try.prog 30 = true := by kernel_rfl
theorem fo24_0 : fldOff Try.prog 24 0 = some 0 := by kernel_rfl
theorem fo24_1 : fldOff Try.prog 24 1 = some 1 := by kernel_rfl
theorem fo24_2 : fldOff Try.prog 24 2 = some 2 := by kernel_rfl
theorem fo24_3 : fldOff Try.prog 24 3 = some 3 := by kernel_rfl
theorem fo24_4 : fldOff Try.prog 24 4 = some 4 := by kernel_rfl
theorem fo26_0 : fldOff Try.prog 26 0 = some 0 := by kernel_rfl
theorem fo26_1 : fldOff Try.prog 26 1 = some 1 := by kernel_rfl
theorem fo26_10 : fldOff Try.prog 26 10 = some 10 := by kernel_rfl
theorem fo26_11 : fldOff Try.prog 26 11 = some 11 := by kernel_rfl
theorem fo26_12 : fldOff Try.prog 26 12 = some 12 := by kernel_rfl
theorem fo26_13 : fldOff Try.prog 26 13 = some 13 := by kernel_rfl
theorem fo26_14 : fldOff Try.prog 26 14 = some 14 := by kernel_rfl
theorem fo26_2 : fldOff Try.prog 26 2 = some 2 := by kernel_rfl
theorem fo26_3 : fldOff Try.prog 26 3 = some 3 := by kernel_rfl
theorem fo26_4 : fldOff Try.prog 26 4 = some 4 := by kernel_rfl
theorem fo26_5 : fldOff Try.prog 26 5 = some 5 := by kernel_rfl
theorem fo26_6 : fldOff Try.prog 26 6 = some 6 := by kernel_rfl
theorem fo26_7 : fldOff Try.prog 26 7 = some 7 := by kernel_rfl
theorem fo26_8 : fldOff Try.prog 26 8 = some 8 := by kernel_rfl
theorem fo26_9 : fldOff Try.prog 26 9 = some 9 := by kernel_rfl
theorem fo28_0 : fldOff Try.prog 28 0 = some 0 := by kernel_rfl
theorem fo28_1 : fldOff Try.prog 28 1 = some 1 := by kernel_rfl
theorem fo28_2 : fldOff Try.prog 28 2 = some 2 := by kernel_rfl
theorem fo30_0 : fldOff Try.prog 30 0 = some 0 := by kernel_rfl
theorem fo30_1 : fldOff Try.prog 30 1 = some 1 := by kernel_rfl
theorem fo30_2 : fldOff Try.prog 30 2 = some 2 := by kernel_rfl
theorem fo30_3 : fldOff Try.prog 30 3 = some 3 := by kernel_rfl
theorem fo30_4 : fldOff Try.prog 30 4 = some 4 := by kernel_rfl
theorem fo35_0 : fldOff Try.prog 35 0 = some 0 := by kernel_rfl
theorem fo35_1 : fldOff Try.prog 35 1 = some 1 := by kernel_rfl
theorem fo79_2 : fldOff Try.prog 79 2 = some 2 := by kernel_rfl
theorem fo81_0 : fldOff Try.prog 81 0 = some 0 := by kernel_rfl
theorem fo81_1 : fldOff Try.prog 81 1 = some 1 := by kernel_rfl
theorem fo81_2 : fldOff Try.prog 81 2 = some 2 := by kernel_rfl
theorem fp24 : fldPlace Try.prog 24 = some [(0, 1), (1, 1), (2, 1), (3, 1), (4, 1)] := by kernel_rfl
theorem fp26 : fldPlace Try.prog 26 = some [(0, 1), (1, 1), (2, 1), (3, 1), (4, 1), (5, 1), (6, 1), (7, 1), (8, 1), (9, 1), (10, 1), (11, 1), (12, 1), (13, 1), (14, 5)] := by kernel_rfl
theorem fp28 : fldPlace Try.prog 28 = some [(0, 1), (1, 1), (2, 1)] := by kernel_rfl
theorem fp30 : fldPlace Try.prog 30 = some [(0, 1), (1, 1), (2, 1), (3, 1), (4, 3)] := by kernel_rfl
theorem fp35 : fldPlace Try.prog 35 = some [(0, 1), (1, 1)] := by kernel_rfl
theorem fp79 : fldPlace Try.prog 79 = some [(0, 1), (1, 1), (2, 1)] := by kernel_rfl
theorem fp81 : fldPlace Try.prog 81 = some [(0, 1), (1, 1), (2, 1)] := by kernel_rfl
theorem ha79_97 (v : Value) (xT : TypeId) (w : World) : (Instr.typeAssert (.iface 79 v) xT 97 true).run Try.prog w = .ok (.tuple #[.iface 79 v, .bool true]) w := run_typeAssert_hasB Try.underlying97 (by kernel_rfl) v xT w
theorem in3 : (Try.prog.info? 3).map (fun i => (i.size, i.bytes, i.zero)) = some (1, 8, some (.int .i64 (0 : Int))) := by kernel_rfl
theorem in5 : (Try.prog.info? 5).map (fun i => (i.size, i.bytes, i.zero)) = some (1, 1, some (.int .u8 (0 : Int))) := by kernel_rfl
theorem iz3 : (Try.prog.info? 3).map (fun i => (i.size, i.zero)) = some (1, some (.int .i64 (0 : Int))) := by kernel_rfl
theorem iz5 : (Try.prog.info? 5).map (fun i => (i.size, i.zero)) = some (1, some (.int .u8 (0 : Int))) := by kernel_rfl
theorem la0_94 (v : Value) (xT : TypeId) (w : World) : (Instr.typeAssert (.iface 0 v) xT 94 true).run Try.prog w = .ok (.tuple #[.nilIface, .bool false]) w := run_typeAssert_lacksB Try.underlying94 (by kernel_rfl) (by kernel_rfl) v xT w
theorem la0_97 (v : Value) (xT : TypeId) (w : World) : (Instr.typeAssert (.iface 0 v) xT 97 true).run Try.prog w = .ok (.tuple #[.nilIface, .bool false]) w := run_typeAssert_lacksB Try.underlying97 (by kernel_rfl) (by kernel_rfl) v xT w
theorem la0_98 (v : Value) (xT : TypeId) (w : World) : (Instr.typeAssert (.iface 0 v) xT 98 true).run Try.prog w = .ok (.tuple #[.nilIface, .bool false]) w := run_typeAssert_lacksB Try.underlying98 (by kernel_rfl) (by kernel_rfl) v xT w
theorem la49_94 (v : Value) (xT : TypeId) (w : World) : (Instr.typeAssert (.iface 49 v) xT 94 true).run Try.prog w = .ok (.tuple #[.nilIface, .bool false]) w := run_typeAssert_lacksB Try.underlying94 (by kernel_rfl) (by kernel_rfl) v xT w
theorem la49_97 (v : Value) (xT : TypeId) (w : World) : (Instr.typeAssert (.iface 49 v) xT 97 true).run Try.prog w = .ok (.tuple #[.nilIface, .bool false]) w := run_typeAssert_lacksB Try.underlying97 (by kernel_rfl) (by kernel_rfl) v xT w
theorem la49_98 (v : Value) (xT : TypeId) (w : World) : (Instr.typeAssert (.iface 49 v) xT 98 true).run Try.prog w = .ok (.tuple #[.nilIface, .bool false]) w := run_typeAssert_lacksB Try.underlying98 (by kernel_rfl) (by kernel_rfl) v xT w
theorem la79_94 (v : Value) (xT : TypeId) (w : World) : (Instr.typeAssert (.iface 79 v) xT 94 true).run Try.prog w = .ok (.tuple #[.nilIface, .bool false]) w := run_typeAssert_lacksB Try.underlying94 (by kernel_rfl) (by kernel_rfl) v xT w
theorem me79_Unwrap (v : Value) (w : World) : (method (mdepth Try.prog) 79 v "Unwrap").run Try.prog w = .ok (69, v) w := by kernel_rfl
theorem mm_Comparable (h : Value) (w : World) : (method (mdepth Try.prog) 92 (.agg #[h]) "Comparable").run Try.prog w = .ok (73, .agg #[h]) w := by kernel_rfl
theorem mr_Comparable_49 (w : World) : ((Extern.ReflectliteType.method fun t => do Extern.Rtype.noPackHeld "Comparable" t; pure (.bool (← typeInfo t).comparable)) #[.agg #[(.pointer (some ⟨0, 49, none⟩))]]).run Try.prog w = .ok (.bool true) w := by kernel_rfl
theorem pl22 : plainT Try.prog 22 = true := by kernel_rfl
theorem pl3 : plainT Try.prog 3 = true := by kernel_rfl
theorem pl31 : plainT Try.prog 31 = true := by kernel_rfl
theorem pl37 : plainT Try.prog 37 = true := by kernel_rfl
theorem pl4 : plainT Try.prog 4 = true := by kernel_rfl
theorem pl5 : plainT Try.prog 5 = true := by kernel_rfl
theorem pl52 : plainT Try.prog 52 = true := by kernel_rfl
theorem pl77 : plainT Try.prog 77 = true := by kernel_rfl
theorem pl9 : plainT Try.prog 9 = true := by kernel_rfl
theorem sz22 : (Try.prog.info? 22).map (·.size) = some 1 := by kernel_rfl
theorem sz24 : (Try.prog.info? 24).map (·.size) = some 5 := by kernel_rfl
theorem sz26 : (Try.prog.info? 26).map (·.size) = some 19 := by kernel_rfl
theorem sz28 : (Try.prog.info? 28).map (·.size) = some 3 := by kernel_rfl
theorem sz3 : (Try.prog.info? 3).map (·.size) = some 1 := by kernel_rfl
theorem sz30 : (Try.prog.info? 30).map (·.size) = some 7 := by kernel_rfl
theorem sz31 : (Try.prog.info? 31).map (·.size) = some 1 := by kernel_rfl
theorem sz35 : (Try.prog.info? 35).map (·.size) = some 2 := by kernel_rfl
theorem sz37 : (Try.prog.info? 37).map (·.size) = some 1 := by kernel_rfl
theorem sz4 : (Try.prog.info? 4).map (·.size) = some 1 := by kernel_rfl
theorem sz5 : (Try.prog.info? 5).map (·.size) = some 1 := by kernel_rfl
theorem sz52 : (Try.prog.info? 52).map (·.size) = some 1 := by kernel_rfl
theorem sz66 : (Try.prog.info? 66).map (·.size) = some 8 := by kernel_rfl
theorem sz68 : (Try.prog.info? 68).map (·.size) = some 4 := by kernel_rfl
theorem sz77 : (Try.prog.info? 77).map (·.size) = some 1 := by kernel_rfl
theorem sz9 : (Try.prog.info? 9).map (·.size) = some 1 := by kernel_rfl
theorem ty49 (v : Value) (w : World) : (Extern.ReflectliteType.typeOf #[.iface 49 v]).run Try.prog w = .ok (.iface 92 (.agg #[(.pointer (some ⟨0, 49, none⟩))])) w := by kernel_rfl
theorem us3 : (Try.prog.underlying 3).isSome = true := by kernel_rfl
theorem us5 : (Try.prog.underlying 5).isSome = true := by kernel_rfl
theorem us77 : (Try.prog.underlying 77).isSome = true := by kernel_rfl
theorem xt46 : ExtOk Try.prog 46 Extern.ReflectliteType.typeOf := fun args w => run_callFunc_extern (e := Extern.ReflectliteType.typeOf) Try.func46 (by kernel_rfl) (by kernel_rfl) (by kernel_rfl) (by kernel_rfl) args w
theorem xt73 : ExtOk Try.prog 73 (Extern.ReflectliteType.method fun t => do Extern.Rtype.noPackHeld "Comparable" t; pure (.bool (← typeInfo t).comparable)) := fun args w => run_callFunc_extern (e := (Extern.ReflectliteType.method fun t => do Extern.Rtype.noPackHeld "Comparable" t; pure (.bool (← typeInfo t).comparable))) Try.func73 (by kernel_rfl) (by kernel_rfl) (by kernel_rfl) (by kernel_rfl) args w
theorem ze24 : (Try.prog.info? 24).map (·.zero) = some (some (.agg #[(.int .i64 (0 : Int)), (.int .i64 (0 : Int)), (.int .i64 (0 : Int)), (.bool false), (.bool false)])) := by kernel_rfl
theorem ze26 : (Try.prog.info? 26).map (·.zero) = some (some (.agg #[(.int .i64 (0 : Int)), (.int .i64 (0 : Int)), (.int .i64 (0 : Int)), (.string (⟨#[]⟩ : ByteArray)), (.string (⟨#[]⟩ : ByteArray)), (.string (⟨#[]⟩ : ByteArray)), (.bool false), (.int .i64 (0 : Int)), (.int .i64 (0 : Int)), (.int .i64 (0 : Int)), (.slice none 0 0), (.int .i64 (0 : Int)), (.int .i64 (0 : Int)), (.string (⟨#[]⟩ : ByteArray)), (.int .i64 (0 : Int)), (.int .i64 (0 : Int)), (.int .i64 (0 : Int)), (.bool false), (.bool false)])) := by kernel_rfl
theorem ze28 : (Try.prog.info? 28).map (·.zero) = some (some (.agg #[(.bool false), (.bool false), (.bool false)])) := by kernel_rfl
theorem ze3 : (Try.prog.info? 3).map (·.zero) = some (some (.int .i64 (0 : Int))) := by kernel_rfl
theorem ze30 : (Try.prog.info? 30).map (·.zero) = some (some (.agg #[(.int .i64 (0 : Int)), (.int .i64 (0 : Int)), (.int .i64 (0 : Int)), (.int .i64 (0 : Int)), (.bool false), (.bool false), (.bool false)])) := by kernel_rfl
theorem ze31 : (Try.prog.info? 31).map (·.zero) = some (some (.slice none 0 0)) := by kernel_rfl
theorem ze35 : (Try.prog.info? 35).map (·.zero) = some (some (.agg #[(.int .i64 (0 : Int)), (.slice none 0 0)])) := by kernel_rfl
theorem ze52 : (Try.prog.info? 52).map (·.zero) = some (some .nilFunc) := by kernel_rfl
theorem ze66 : (Try.prog.info? 66).map (·.zero) = some (some (.agg #[(.int .i64 (0 : Int)), (.int .i64 (0 : Int)), (.int .i64 (0 : Int)), (.int .i64 (0 : Int)), (.int .i64 (0 : Int)), (.int .i64 (0 : Int)), (.int .i64 (0 : Int)), (.int .i64 (0 : Int))])) := by kernel_rfl
theorem ze68 : (Try.prog.info? 68).map (·.zero) = some (some (.agg #[(.string (⟨#[]⟩ : ByteArray)), (.string (⟨#[]⟩ : ByteArray)), (.string (⟨#[]⟩ : ByteArray)), (.string (⟨#[]⟩ : ByteArray))])) := by kernel_rfl
theorem ze77 : (Try.prog.info? 77).map (·.zero) = some (some (.int .u64 (0 : Int))) := by kernel_rfl
theorem ze79 : (Try.prog.info? 79).map (·.zero) = some (some (.agg #[(.string (⟨#[]⟩ : ByteArray)), (.int .i64 (0 : Int)), (.nilIface)])) := by kernel_rfl
theorem ze81 : (Try.prog.info? 81).map (·.zero) = some (some (.agg #[(.slice none 0 0), (.int .i64 (0 : Int)), (.nilIface)])) := by kernel_rfl
theorem zo94 : (Try.prog.info? 94).map (·.zero) = some (some .nilIface) := by kernel_rfl
theorem zo97 : (Try.prog.info? 97).map (·.zero) = some (some .nilIface) := by kernel_rfl
theorem zo98 : (Try.prog.info? 98).map (·.zero) = some (some .nilIface) := by kernel_rfl
theorem mixed : Try.prog.follows .mixedOrders = true := by kernel_rfl

end Go.Proofs.Ytjgnbbakamellaa.G
