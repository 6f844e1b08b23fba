
import Derived.Test.YtfkmkgpoddbbfaaGreatDoorKGen2
set_option linter.unusedSimpArgs false
set_option linter.unusedVariables false
namespace Go.KK
open Go
theorem QfP {n:Int}(h0:-9223372036854775808≤n) (h1:n≤9223372036854775807):IntKind.i64.wrap n=n:=by
 exact IntWalk.i64_in n (by omega)
theorem QqB {n:Int}(h0:0≤n) (h1:n≤18446744073709551615):IntKind.u64.wrap n=n:=by
 simp only [IntKind.wrap,IntKind.signed,IntKind.bits];simp;omega
theorem w_u8 {n:Int}(h0:0≤n) (h1:n≤255):IntKind.u8.wrap n=n:=by
 simp only [IntKind.wrap,IntKind.signed,IntKind.bits];simp;omega
theorem QqC (n:Int):IntKind.u8.wrap n=n % 256:=by
 simp only [IntKind.wrap,IntKind.signed,IntKind.bits];simp
theorem QbW {α:Type}{c:Prop}[Decidable c]{x:Option α}(h:c):grd c x=x:=by unfold grd;rw [if_pos h]
theorem QbT {α:Type}{xs:List α}{i:Nat}(h:i<xs.length) [Inhabited α]:rd xs (i:Int)=xs[i]:=by
 simp [rd,List.getD_eq_getElem?_getD,List.getElem?_eq_getElem h]
theorem Qt7 {σ ε:Type}{step:σ→Option (σ⊕ε)}(n:Nat){s:σ}{e:ε}(h:runK n step s=some e):iter step s=some e:=QjE.2 (QoG n h)
end Go.KK
