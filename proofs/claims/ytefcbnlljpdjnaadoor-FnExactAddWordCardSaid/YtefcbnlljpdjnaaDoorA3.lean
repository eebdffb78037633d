/- Texts of one proof put together: walks of the program's functions, and plain laws on what they compute. -/
import Derived.Test.YtefcbnlljpdjnaaDoorA0
import Derived.Test.YtefcbnlljpdjnaaDoorA1
import Derived.Test.YtefcbnlljpdjnaaDoorA2
import Derived.Sort.Walk0
import Derived.Lib.Strings
import Derived.Lib.SlicesCompact
import Derived.Test.YtefcbnlljpdjnaaDoorProg
import Derived.Below
import Derived.Deep.Draws
import Derived.Deep.AppendLies
import Derived.Maps.AppendAt
import Derived.OwnWalk
import Derived.Laws.BytesArg
import Derived.Laws.MakeOwn
import Derived.Laws.OwnMore
import Derived.Deep.OwnRows
import Derived.Tactics
import Derived.Lib.ConvBytes
import Derived.Laws.Slices
import Derived.WalkKit
import Derived.KernelRfl
import Derived.RowKit3
import Derived.Deep.LoopGhost
import Derived.Deep.QuietTactic
import Derived.BigQuiet
import Derived.WideLaws
import Derived.Deep.DeepCutAuto
import Derived.Deep.CutBlock
import Derived.Deep.RegionHeld3
import Derived.Laws.Rows
import Derived.Lib.AppendStr
import Derived.ArgAppend
import Derived.Laws.IdiomCopy
import Derived.OrdersHeld
import Derived.Laws.BitsLemmas
import Derived.RowKit
set_option linter.unusedVariables false
set_option linter.unusedSimpArgs false
namespace Go.Proofs.YtefcbnlljpdjnaaDoor.Q
open Go.RowKit Go.Proofs.YtefcbnlljpdjnaaDoorW.PrintWords Go.Proofs.YtefcbnlljpdjnaaDoorW.PrintLast
theorem SS.sw {l : List ByteArray} (h : SS l) : SW l := h.imp (fun h => List.le_of_lt h)
end Go.Proofs.YtefcbnlljpdjnaaDoor.Q
