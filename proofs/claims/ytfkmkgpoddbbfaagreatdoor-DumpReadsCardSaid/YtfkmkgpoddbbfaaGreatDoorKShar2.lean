
import Derived.Test.YtfkmkgpoddbbfaaGreatDoorKDraw
namespace Go.KK
open Go
theorem WT.freeze {P:Program}{ops:Array Oper}{masks:List Nat}{n:Nat}{Q:Exit→Act→World→Prop}{t:Plan}{pend:List Nat}{ρ:Nat→Value}{M:IM}{c:QaV}{H:HL}(k:M.le (M.add c)→WT P ops masks n Q t pend ρ (M.add c) H):WT P ops masks n Q t pend ρ M (c::H):=
 fun a w ha hs=>k (M.le_add c) a w ha hs.freeze
end Go.KK
