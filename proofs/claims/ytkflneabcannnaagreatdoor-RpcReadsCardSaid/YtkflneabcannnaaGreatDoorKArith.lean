
import Derived.Test.YtkflneabcannnaaGreatDoorKGen2
set_option linter.unusedSimpArgs false
set_option linter.unusedVariables false
namespace Go.KK
open Go
theorem w_i64 {n:Int}(h0:-9223372036854775808≤n) (h1:n≤9223372036854775807):IntKind.i64.wrap n=n:=by
 exact IntWalk.i64_in n (by omega)
theorem w_u64 {n:Int}(h0:0≤n) (h1:n≤18446744073709551615):IntKind.u64.wrap n=n:=by
 simp only [IntKind.wrap,IntKind.signed,IntKind.bits];simp;omega
theorem w_u8 {n:Int}(h0:0≤n) (h1:n≤255):IntKind.u8.wrap n=n:=by
 simp only [IntKind.wrap,IntKind.signed,IntKind.bits];simp;omega
theorem u8_mod (n:Int):IntKind.u8.wrap n=n % 256:=by
 simp only [IntKind.wrap,IntKind.signed,IntKind.bits];simp
theorem grd_t {α:Type}{c:Prop}[Decidable c]{x:Option α}(h:c):grd c x=x:=by unfold grd;rw [if_pos h]
theorem len_lt {α:Type}{xs:List α}{i:Nat}(h:i<xs.length) [Inhabited α]:rd xs (i:Int)=xs[i]:=by
 simp [rd,List.getD_eq_getElem?_getD,List.getElem?_eq_getElem h]
def runK {σ ε:Type}:Nat→(σ→Option (σ⊕ε))→σ→Option ε
 |0,_,_=>none
 |n+1,step,s=>match step s with
  |some (.inl s')=>runK n step s'
  |some (.inr e)=>some e
  |none=>none
theorem iter_run {σ ε:Type}{step:σ→Option (σ⊕ε)}:∀ (n:Nat){s:σ}{e:ε},runK n step s=some e→iter step s=some e
 |0,_,_,h=>by cases h
 |n+1,s,e,h=>by
  unfold runK at h
  cases hs:step s with
  |none=>rw [hs] at h;cases h
  |some x=>
   rw [hs] at h
   cases x with
   |inl s'=>rw [iter_next hs];exact iter_run n h
   |inr e'=>cases h;exact iter_stop hs
end Go.KK
