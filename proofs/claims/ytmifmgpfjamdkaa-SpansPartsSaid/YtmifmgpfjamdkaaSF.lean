/- Closed facts on the program's types. Printed by a program of the session (gen). -/
import Derived.Test.YtmifmgpfjamdkaaST
import Derived.Test.YtmifmgpfjamdkaaProg
set_option linter.unusedVariables false
set_option linter.unusedSimpArgs false
namespace Go.Proofs.Ytmifmgpfjamdkaa.G
open Go Go.KK

theorem ag50 : aggB Try.prog 50 = true := by kernel_rfl
theorem cc58 : Try.prog.concrete 58 = true := by kernel_rfl
theorem cc71 : Try.prog.concrete 71 = true := by kernel_rfl
theorem co20 : callOk Try.prog 20 = true := by kernel_rfl
theorem co21 : callOk Try.prog 21 = true := by kernel_rfl
theorem co22 : callOk Try.prog 22 = true := by kernel_rfl
theorem co23 : callOk Try.prog 23 = true := by kernel_rfl
theorem co24 : callOk Try.prog 24 = true := by kernel_rfl
theorem co25 : callOk Try.prog 25 = true := by kernel_rfl
theorem co26 : callOk Try.prog 26 = true := by kernel_rfl
theorem co27 : callOk Try.prog 27 = true := by kernel_rfl
theorem co28 : callOk Try.prog 28 = true := by kernel_rfl
theorem co29 : callOk Try.prog 29 = true := by kernel_rfl
theorem co30 : callOk Try.prog 30 = true := by kernel_rfl
theorem co33 : callOk Try.prog 33 = true := by kernel_rfl
theorem co34 : callOk Try.prog 34 = true := by kernel_rfl
theorem co35 : callOk Try.prog 35 = true := by kernel_rfl
theorem co36 : callOk Try.prog 36 = true := by kernel_rfl
theorem co37 : callOk Try.prog 37 = true := by kernel_rfl
theorem co38 : callOk Try.prog 38 = true := by kernel_rfl
theorem co39 : callOk Try.prog 39 = true := by kernel_rfl
theorem co40 : callOk Try.prog 40 = true := by kernel_rfl
theorem fo50_0 : fldOff Try.prog 50 0 = some 0 := by kernel_rfl
theorem fo50_1 : fldOff Try.prog 50 1 = some 1 := by kernel_rfl
theorem fo53_0 : fldOff Try.prog 53 0 = some 0 := by kernel_rfl
theorem fp50 : fldPlace Try.prog 50 = some [(0, 1), (1, 1)] := by kernel_rfl
theorem fp53 : fldPlace Try.prog 53 = some [(0, 1), (1, 1), (2, 1)] := by kernel_rfl
theorem fp71 : fldPlace Try.prog 71 = some [(0, 1), (1, 1), (2, 1)] := by kernel_rfl
theorem in5 : (Try.prog.info? 5).map (fun i => (i.size, i.bytes, i.zero)) = some (1, 1, some (.int .u8 (0 : Int))) := by kernel_rfl
theorem in50 : (Try.prog.info? 50).map (fun i => (i.size, i.bytes, i.zero)) = some (2, 16, some (.agg #[(.int .i64 (0 : Int)), (.int .i64 (0 : Int))])) := by kernel_rfl
theorem in53 : (Try.prog.info? 53).map (fun i => (i.size, i.bytes, i.zero)) = some (3, 40, some (.agg #[(.int .i64 (0 : Int)), (.int .i64 (0 : Int)), (.slice none 0 0)])) := by kernel_rfl
theorem iz5 : (Try.prog.info? 5).map (fun i => (i.size, i.zero)) = some (1, some (.int .u8 (0 : Int))) := by kernel_rfl
theorem iz50 : (Try.prog.info? 50).map (fun i => (i.size, i.zero)) = some (2, some (.agg #[(.int .i64 (0 : Int)), (.int .i64 (0 : Int))])) := by kernel_rfl
theorem iz53 : (Try.prog.info? 53).map (fun i => (i.size, i.zero)) = some (3, some (.agg #[(.int .i64 (0 : Int)), (.int .i64 (0 : Int)), (.slice none 0 0)])) := by kernel_rfl
theorem pl3 : plainT Try.prog 3 = true := by kernel_rfl
theorem pl5 : plainT Try.prog 5 = true := by kernel_rfl
theorem sz3 : (Try.prog.info? 3).map (·.size) = some 1 := by kernel_rfl
theorem sz5 : (Try.prog.info? 5).map (·.size) = some 1 := by kernel_rfl
theorem sz50 : (Try.prog.info? 50).map (·.size) = some 2 := by kernel_rfl
theorem sz53 : (Try.prog.info? 53).map (·.size) = some 3 := by kernel_rfl
theorem us3 : (Try.prog.underlying 3).isSome = true := by kernel_rfl
theorem us42 : (Try.prog.underlying 42).isSome = true := by kernel_rfl
theorem us5 : (Try.prog.underlying 5).isSome = true := by kernel_rfl
theorem us56 : (Try.prog.underlying 56).isSome = true := by kernel_rfl
theorem ze50 : (Try.prog.info? 50).map (·.zero) = some (some (.agg #[(.int .i64 (0 : Int)), (.int .i64 (0 : Int))])) := by kernel_rfl
theorem ze53 : (Try.prog.info? 53).map (·.zero) = some (some (.agg #[(.int .i64 (0 : Int)), (.int .i64 (0 : Int)), (.slice none 0 0)])) := by kernel_rfl
theorem ze71 : (Try.prog.info? 71).map (·.zero) = some (some (.agg #[(.string (⟨#[]⟩ : ByteArray)), (.int .i64 (0 : Int)), (.nilIface)])) := by kernel_rfl
theorem mixed : Try.prog.follows .mixedOrders = true := by kernel_rfl

end Go.Proofs.Ytmifmgpfjamdkaa.G
