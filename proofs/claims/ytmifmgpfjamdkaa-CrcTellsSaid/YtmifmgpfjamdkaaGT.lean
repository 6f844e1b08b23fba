/- The values of the structs of this program, and what their cells are. Printed by a program of the session (gen). -/
import Derived.Test.YtmifmgpfjamdkaaKGen2
namespace Go.Proofs.Ytmifmgpfjamdkaa.G
open Go Go.KK

abbrev GV (e : GErr) : Value := e.val 58 71 0
abbrev kdErr : Kd GErr := kdErrOf 58 71 0

end Go.Proofs.Ytmifmgpfjamdkaa.G
