/- What the library's number printing asks of the world: its table of powers of ten. -/
import Derived.Test.YthcmjcjgaebciaaDoorXWords
import Derived.Lib.LaidTab
import Derived.Lib.ItoaNum
import Derived.Lib.AppendIntMem
namespace Go.Proofs.YthcmjcjgaebciaaDoorW.PrintMore
open Go.RowKit Go.Proofs.YthcmjcjgaebciaaDoorW.PrintWords
def GF (P : Program) (w : World) : Prop := Lib.TabIs P w "internal/strconv.uint64pow10" .u64 Lib.pow10Tab
theorem GF.below {P : Program} {w W : World} (h : GF P w) (hb : Below w.heap.size w W) : GF P W := Lib.tabBelow_of_tabIs h W hb
end Go.Proofs.YthcmjcjgaebciaaDoorW.PrintMore
