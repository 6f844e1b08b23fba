/- Closed facts on the program's types. Printed by a program of the session (gen). -/
import Derived.Test.YtdlilclopmhiaaaCT
import Derived.Test.YtdlilclopmhiaaaProg
set_option linter.unusedVariables false
set_option linter.unusedSimpArgs false
namespace Go.Proofs.Ytdlilclopmhiaaa.G
open Go Go.KK

theorem ag24 : aggB Try.prog 24 = true := by kernel_rfl
theorem ag27 : aggB Try.prog 27 = true := by kernel_rfl
theorem ag29 : aggB Try.prog 29 = true := by kernel_rfl
theorem ag33 : aggB Try.prog 33 = true := by kernel_rfl
theorem ag52 : aggB Try.prog 52 = true := by kernel_rfl
theorem ag59 : aggB Try.prog 59 = true := by kernel_rfl
theorem ag84 : aggB Try.prog 84 = true := by kernel_rfl
theorem cc36 : Try.prog.concrete 36 = true := by kernel_rfl
theorem cc76 : Try.prog.concrete 76 = true := by kernel_rfl
theorem cm36 : (Try.prog.info? 36).map (·.comparable) = some true := by kernel_rfl
theorem co10 : callOk Try.prog 10 = true := by kernel_rfl
theorem co11 : callOk Try.prog 11 = true := by kernel_rfl
theorem co12 : callOk Try.prog 12 = true := by kernel_rfl
theorem co13 : callOk Try.prog 13 = true := by kernel_rfl
theorem co14 : callOk Try.prog 14 = true := by kernel_rfl
theorem co15 : callOk Try.prog 15 = true := by kernel_rfl
theorem co16 : callOk Try.prog 16 = true := by kernel_rfl
theorem co17 : callOk Try.prog 17 = true := by kernel_rfl
theorem co18 : callOk Try.prog 18 = true := by kernel_rfl
theorem co19 : callOk Try.prog 19 = true := by kernel_rfl
theorem co20 : callOk Try.prog 20 = true := by kernel_rfl
theorem co21 : callOk Try.prog 21 = true := by kernel_rfl
theorem co22 : callOk Try.prog 22 = true := by kernel_rfl
theorem co23 : callOk Try.prog 23 = true := by kernel_rfl
theorem co24 : callOk Try.prog 24 = true := by kernel_rfl
theorem co25 : callOk Try.prog 25 = true := by kernel_rfl
theorem co26 : callOk Try.prog 26 = true := by kernel_rfl
theorem co27 : callOk Try.prog 27 = true := by kernel_rfl
theorem co28 : callOk Try.prog 28 = true := by kernel_rfl
theorem co29 : callOk Try.prog 29 = true := by kernel_rfl
theorem co30 : callOk Try.prog 30 = true := by kernel_rfl
theorem co31 : callOk Try.prog 31 = true := by kernel_rfl
theorem co32 : callOk Try.prog 32 = true := by kernel_rfl
theorem co33 : callOk Try.prog 33 = true := by kernel_rfl
theorem co34 : callOk Try.prog 34 = true := by kernel_rfl
theorem co35 : callOk Try.prog 35 = true := by kernel_rfl
theorem co36 : callOk Try.prog 36 = true := by kernel_rfl
theorem co37 : callOk Try.prog 37 = true := by kernel_rfl
theorem co38 : callOk Try.prog 38 = true := by kernel_rfl
theorem co40 : callOk Try.prog 40 = true := by kernel_rfl
theorem co41 : callOk Try.prog 41 = true := by kernel_rfl
theorem co42 : callOk Try.prog 42 = true := by kernel_rfl
theorem co43 : callOk Try.prog 43 = true := by kernel_rfl
theorem co44 : callOk Try.prog 44 = true := by kernel_rfl
theorem co45 : callOk Try.prog 45 = true := by kernel_rfl
theorem co6 : callOk Try.prog 6 = true := by kernel_rfl
theorem co63 : callOk Try.prog 63 = true := by kernel_rfl
theorem co7 : callOk Try.prog 7 = true := by kernel_rfl
theorem co8 : callOk Try.prog 8 = true := by kernel_rfl
theorem co9 : callOk Try.prog 9 = true := by kernel_rfl
theorem eg27 : Try.prog.eqGuardType Try.prog.depth 27 = false := by kernel_rfl
theorem eg52 : Try.prog.eqGuardType Try.prog.depth 52 = false := by kernel_rfl
theorem eg84 : Try.prog.eqGuardType Try.prog.depth 84 = false := by kernel_rfl
theorem eq27 : eqStruct Try.prog 27 = true := by kernel_rfl
theorem fa24_3 : fldAt Try.prog 24 3 = some (3, 3) := by kernel_rfl
theorem fo24_0 : fldOff Try.prog 24 0 = some 0 := by kernel_rfl
theorem fo24_1 : fldOff Try.prog 24 1 = some 1 := by kernel_rfl
theorem fo24_2 : fldOff Try.prog 24 2 = some 2 := by kernel_rfl
theorem fo24_3 : fldOff Try.prog 24 3 = some 3 := by kernel_rfl
theorem fo24_4 : fldOff Try.prog 24 4 = some 4 := by kernel_rfl
theorem fo24_5 : fldOff Try.prog 24 5 = some 5 := by kernel_rfl
theorem fo27_0 : fldOff Try.prog 27 0 = some 0 := by kernel_rfl
theorem fo27_1 : fldOff Try.prog 27 1 = some 1 := by kernel_rfl
theorem fo27_2 : fldOff Try.prog 27 2 = some 2 := by kernel_rfl
theorem fo27_3 : fldOff Try.prog 27 3 = some 3 := by kernel_rfl
theorem fo27_4 : fldOff Try.prog 27 4 = some 4 := by kernel_rfl
theorem fo29_0 : fldOff Try.prog 29 0 = some 0 := by kernel_rfl
theorem fo29_1 : fldOff Try.prog 29 1 = some 1 := by kernel_rfl
theorem fo29_10 : fldOff Try.prog 29 10 = some 10 := by kernel_rfl
theorem fo29_11 : fldOff Try.prog 29 11 = some 11 := by kernel_rfl
theorem fo29_12 : fldOff Try.prog 29 12 = some 12 := by kernel_rfl
theorem fo29_13 : fldOff Try.prog 29 13 = some 13 := by kernel_rfl
theorem fo29_14 : fldOff Try.prog 29 14 = some 14 := by kernel_rfl
theorem fo29_2 : fldOff Try.prog 29 2 = some 2 := by kernel_rfl
theorem fo29_3 : fldOff Try.prog 29 3 = some 3 := by kernel_rfl
theorem fo29_4 : fldOff Try.prog 29 4 = some 4 := by kernel_rfl
theorem fo29_5 : fldOff Try.prog 29 5 = some 5 := by kernel_rfl
theorem fo29_6 : fldOff Try.prog 29 6 = some 6 := by kernel_rfl
theorem fo29_7 : fldOff Try.prog 29 7 = some 7 := by kernel_rfl
theorem fo29_8 : fldOff Try.prog 29 8 = some 8 := by kernel_rfl
theorem fo29_9 : fldOff Try.prog 29 9 = some 9 := by kernel_rfl
theorem fo33_0 : fldOff Try.prog 33 0 = some 0 := by kernel_rfl
theorem fo33_1 : fldOff Try.prog 33 1 = some 1 := by kernel_rfl
theorem fo33_2 : fldOff Try.prog 33 2 = some 2 := by kernel_rfl
theorem fo33_3 : fldOff Try.prog 33 3 = some 3 := by kernel_rfl
theorem fo59_2 : fldOff Try.prog 59 2 = some 2 := by kernel_rfl
theorem fo76_2 : fldOff Try.prog 76 2 = some 2 := by kernel_rfl
theorem fp24 : fldPlace Try.prog 24 = some [(0, 1), (1, 1), (2, 1), (3, 1), (4, 1), (5, 1)] := by kernel_rfl
theorem fp27 : fldPlace Try.prog 27 = some [(0, 1), (1, 1), (2, 1), (3, 1), (4, 1)] := by kernel_rfl
theorem fp29 : fldPlace Try.prog 29 = some [(0, 1), (1, 1), (2, 1), (3, 1), (4, 1), (5, 1), (6, 1), (7, 1), (8, 1), (9, 1), (10, 1), (11, 1), (12, 1), (13, 1), (14, 5)] := by kernel_rfl
theorem fp33 : fldPlace Try.prog 33 = some [(0, 1), (1, 1), (2, 1), (3, 1), (4, 3)] := by kernel_rfl
theorem fp59 : fldPlace Try.prog 59 = some [(0, 1), (1, 1), (2, 1)] := by kernel_rfl
theorem fp76 : fldPlace Try.prog 76 = some [(0, 1), (1, 1), (2, 1)] := by kernel_rfl
theorem ha76_94 (v : Value) (xT : TypeId) (w : World) : (Instr.typeAssert (.iface 76 v) xT 94 true).run Try.prog w = .ok (.tuple #[.iface 76 v, .bool true]) w := run_typeAssert_hasB Try.underlying94 (by kernel_rfl) v xT w
theorem in3 : (Try.prog.info? 3).map (fun i => (i.size, i.bytes, i.zero)) = some (1, 8, some (.int .i64 (0 : Int))) := by kernel_rfl
theorem iz29 : (Try.prog.info? 29).map (fun i => (i.size, i.zero)) = some (19, some (.agg #[(.int .i64 (0 : Int)), (.int .i64 (0 : Int)), (.int .i64 (0 : Int)), (.string (⟨#[]⟩ : ByteArray)), (.string (⟨#[]⟩ : ByteArray)), (.string (⟨#[]⟩ : ByteArray)), (.bool false), (.int .i64 (0 : Int)), (.int .i64 (0 : Int)), (.int .i64 (0 : Int)), (.slice none 0 0), (.int .i64 (0 : Int)), (.int .i64 (0 : Int)), (.string (⟨#[]⟩ : ByteArray)), (.int .i64 (0 : Int)), (.int .i64 (0 : Int)), (.int .i64 (0 : Int)), (.bool false), (.bool false)])) := by kernel_rfl
theorem la0_91 (v : Value) (xT : TypeId) (w : World) : (Instr.typeAssert (.iface 0 v) xT 91 true).run Try.prog w = .ok (.tuple #[.nilIface, .bool false]) w := run_typeAssert_lacksB Try.underlying91 (by kernel_rfl) (by kernel_rfl) v xT w
theorem la0_94 (v : Value) (xT : TypeId) (w : World) : (Instr.typeAssert (.iface 0 v) xT 94 true).run Try.prog w = .ok (.tuple #[.nilIface, .bool false]) w := run_typeAssert_lacksB Try.underlying94 (by kernel_rfl) (by kernel_rfl) v xT w
theorem la0_96 (v : Value) (xT : TypeId) (w : World) : (Instr.typeAssert (.iface 0 v) xT 96 true).run Try.prog w = .ok (.tuple #[.nilIface, .bool false]) w := run_typeAssert_lacksB Try.underlying96 (by kernel_rfl) (by kernel_rfl) v xT w
theorem la36_91 (v : Value) (xT : TypeId) (w : World) : (Instr.typeAssert (.iface 36 v) xT 91 true).run Try.prog w = .ok (.tuple #[.nilIface, .bool false]) w := run_typeAssert_lacksB Try.underlying91 (by kernel_rfl) (by kernel_rfl) v xT w
theorem la36_94 (v : Value) (xT : TypeId) (w : World) : (Instr.typeAssert (.iface 36 v) xT 94 true).run Try.prog w = .ok (.tuple #[.nilIface, .bool false]) w := run_typeAssert_lacksB Try.underlying94 (by kernel_rfl) (by kernel_rfl) v xT w
theorem la36_96 (v : Value) (xT : TypeId) (w : World) : (Instr.typeAssert (.iface 36 v) xT 96 true).run Try.prog w = .ok (.tuple #[.nilIface, .bool false]) w := run_typeAssert_lacksB Try.underlying96 (by kernel_rfl) (by kernel_rfl) v xT w
theorem la76_91 (v : Value) (xT : TypeId) (w : World) : (Instr.typeAssert (.iface 76 v) xT 91 true).run Try.prog w = .ok (.tuple #[.nilIface, .bool false]) w := run_typeAssert_lacksB Try.underlying91 (by kernel_rfl) (by kernel_rfl) v xT w
theorem me76_Unwrap (v : Value) (w : World) : (method (mdepth Try.prog) 76 v "Unwrap").run Try.prog w = .ok (63, v) w := by kernel_rfl
theorem mm_Comparable (h : Value) (w : World) : (method (mdepth Try.prog) 89 (.agg #[h]) "Comparable").run Try.prog w = .ok (67, .agg #[h]) w := by kernel_rfl
theorem mr_Comparable_36 (w : World) : ((Extern.ReflectliteType.method fun t => do Extern.Rtype.noPackHeld "Comparable" t; pure (.bool (← typeInfo t).comparable)) #[.agg #[(.pointer (some ⟨0, 36, none⟩))]]).run Try.prog w = .ok (.bool true) w := by kernel_rfl
theorem pl22 : plainT Try.prog 22 = true := by kernel_rfl
theorem pl25 : plainT Try.prog 25 = true := by kernel_rfl
theorem pl3 : plainT Try.prog 3 = true := by kernel_rfl
theorem pl36 : plainT Try.prog 36 = true := by kernel_rfl
theorem pl4 : plainT Try.prog 4 = true := by kernel_rfl
theorem pl40 : plainT Try.prog 40 = true := by kernel_rfl
theorem pl9 : plainT Try.prog 9 = true := by kernel_rfl
theorem sz22 : (Try.prog.info? 22).map (·.size) = some 1 := by kernel_rfl
theorem sz24 : (Try.prog.info? 24).map (·.size) = some 6 := by kernel_rfl
theorem sz25 : (Try.prog.info? 25).map (·.size) = some 1 := by kernel_rfl
theorem sz27 : (Try.prog.info? 27).map (·.size) = some 5 := by kernel_rfl
theorem sz29 : (Try.prog.info? 29).map (·.size) = some 19 := by kernel_rfl
theorem sz3 : (Try.prog.info? 3).map (·.size) = some 1 := by kernel_rfl
theorem sz33 : (Try.prog.info? 33).map (·.size) = some 7 := by kernel_rfl
theorem sz4 : (Try.prog.info? 4).map (·.size) = some 1 := by kernel_rfl
theorem sz52 : (Try.prog.info? 52).map (·.size) = some 8 := by kernel_rfl
theorem sz59 : (Try.prog.info? 59).map (·.size) = some 3 := by kernel_rfl
theorem sz84 : (Try.prog.info? 84).map (·.size) = some 4 := by kernel_rfl
theorem sz9 : (Try.prog.info? 9).map (·.size) = some 1 := by kernel_rfl
theorem ty36 (v : Value) (w : World) : (Extern.ReflectliteType.typeOf #[.iface 36 v]).run Try.prog w = .ok (.iface 89 (.agg #[(.pointer (some ⟨0, 36, none⟩))])) w := by kernel_rfl
theorem us5 : (Try.prog.underlying 5).isSome = true := by kernel_rfl
theorem us50 : (Try.prog.underlying 50).isSome = true := by kernel_rfl
theorem xt39 : ExtOk Try.prog 39 Extern.ReflectliteType.typeOf := fun args w => run_callFunc_extern (e := Extern.ReflectliteType.typeOf) Try.func39 (by kernel_rfl) (by kernel_rfl) (by kernel_rfl) (by kernel_rfl) args w
theorem xt67 : ExtOk Try.prog 67 (Extern.ReflectliteType.method fun t => do Extern.Rtype.noPackHeld "Comparable" t; pure (.bool (← typeInfo t).comparable)) := fun args w => run_callFunc_extern (e := (Extern.ReflectliteType.method fun t => do Extern.Rtype.noPackHeld "Comparable" t; pure (.bool (← typeInfo t).comparable))) Try.func67 (by kernel_rfl) (by kernel_rfl) (by kernel_rfl) (by kernel_rfl) args w
theorem ze24 : (Try.prog.info? 24).map (·.zero) = some (some (.agg #[(.int .i64 (0 : Int)), (.int .i64 (0 : Int)), (.int .i64 (0 : Int)), (.int .i64 (0 : Int)), (.slice none 0 0), (.int .i64 (0 : Int))])) := by kernel_rfl
theorem ze27 : (Try.prog.info? 27).map (·.zero) = some (some (.agg #[(.int .i64 (0 : Int)), (.int .i64 (0 : Int)), (.int .i64 (0 : Int)), (.bool false), (.bool false)])) := by kernel_rfl
theorem ze29 : (Try.prog.info? 29).map (·.zero) = some (some (.agg #[(.int .i64 (0 : Int)), (.int .i64 (0 : Int)), (.int .i64 (0 : Int)), (.string (⟨#[]⟩ : ByteArray)), (.string (⟨#[]⟩ : ByteArray)), (.string (⟨#[]⟩ : ByteArray)), (.bool false), (.int .i64 (0 : Int)), (.int .i64 (0 : Int)), (.int .i64 (0 : Int)), (.slice none 0 0), (.int .i64 (0 : Int)), (.int .i64 (0 : Int)), (.string (⟨#[]⟩ : ByteArray)), (.int .i64 (0 : Int)), (.int .i64 (0 : Int)), (.int .i64 (0 : Int)), (.bool false), (.bool false)])) := by kernel_rfl
theorem ze3 : (Try.prog.info? 3).map (·.zero) = some (some (.int .i64 (0 : Int))) := by kernel_rfl
theorem ze33 : (Try.prog.info? 33).map (·.zero) = some (some (.agg #[(.int .i64 (0 : Int)), (.int .i64 (0 : Int)), (.int .i64 (0 : Int)), (.int .i64 (0 : Int)), (.bool false), (.bool false), (.bool false)])) := by kernel_rfl
theorem ze52 : (Try.prog.info? 52).map (·.zero) = some (some (.agg #[(.int .i64 (0 : Int)), (.int .i64 (0 : Int)), (.int .i64 (0 : Int)), (.int .i64 (0 : Int)), (.int .i64 (0 : Int)), (.int .i64 (0 : Int)), (.int .i64 (0 : Int)), (.int .i64 (0 : Int))])) := by kernel_rfl
theorem ze59 : (Try.prog.info? 59).map (·.zero) = some (some (.agg #[(.string (⟨#[]⟩ : ByteArray)), (.int .i64 (0 : Int)), (.int .i64 (0 : Int))])) := by kernel_rfl
theorem ze76 : (Try.prog.info? 76).map (·.zero) = some (some (.agg #[(.string (⟨#[]⟩ : ByteArray)), (.int .i64 (0 : Int)), (.nilIface)])) := by kernel_rfl
theorem ze84 : (Try.prog.info? 84).map (·.zero) = some (some (.agg #[(.string (⟨#[]⟩ : ByteArray)), (.string (⟨#[]⟩ : ByteArray)), (.string (⟨#[]⟩ : ByteArray)), (.string (⟨#[]⟩ : ByteArray))])) := by kernel_rfl
theorem zo91 : (Try.prog.info? 91).map (·.zero) = some (some .nilIface) := by kernel_rfl
theorem zo94 : (Try.prog.info? 94).map (·.zero) = some (some .nilIface) := by kernel_rfl
theorem zo96 : (Try.prog.info? 96).map (·.zero) = some (some .nilIface) := by kernel_rfl
theorem mixed : Try.prog.follows .mixedOrders = true := by kernel_rfl

end Go.Proofs.Ytdlilclopmhiaaa.G
