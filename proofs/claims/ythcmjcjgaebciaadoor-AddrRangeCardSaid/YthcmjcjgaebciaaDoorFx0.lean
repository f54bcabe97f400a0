-- Out of the translation, by a program (myprint.py).
import Derived.Test.YthcmjcjgaebciaaDoorProg
import Derived.Below
import Derived.Deep.Draws
import Derived.Deep.AppendLies
import Derived.Maps.AppendAt
import Derived.OwnWalk
import Derived.Laws.BytesArg
import Derived.Laws.MakeOwn
import Derived.Laws.OwnMore
import Derived.Deep.OwnRows
import Derived.Tactics
import Derived.Lib.ConvBytes
import Derived.Laws.Slices
import Derived.WalkKit
import Derived.KernelRfl
import Derived.RowKit3
import Derived.Deep.LoopGhost
import Derived.Deep.QuietTactic
import Derived.BigQuiet
import Derived.WideLaws
import Derived.Deep.DeepCutAuto
import Derived.Deep.CutBlock
import Derived.Deep.RegionHeld3
import Derived.Laws.Rows
import Derived.Lib.AppendStr
import Derived.ArgAppend
import Derived.Laws.IdiomCopy
import Derived.OrdersHeld
import Derived.Laws.BitsLemmas
import Derived.RowKit
import Derived.Test.YthcmjcjgaebciaaDoorWWords
import Derived.Test.YthcmjcjgaebciaaDoorWLast
import Derived.Test.YthcmjcjgaebciaaDoorWTab
import Derived.Test.YthcmjcjgaebciaaDoorWFour
import Derived.Test.YthcmjcjgaebciaaDoorWQPut
import Derived.Test.YthcmjcjgaebciaaDoorWApart
import Derived.Test.YthcmjcjgaebciaaDoorWArr
import Derived.Test.YthcmjcjgaebciaaDoorWZeros
import Derived.Test.YthcmjcjgaebciaaDoorWFoot
import Derived.Test.YthcmjcjgaebciaaDoorWKept
import Derived.Test.YthcmjcjgaebciaaDoorWShare
import Derived.Test.YthcmjcjgaebciaaDoorWN
import Derived.Test.YthcmjcjgaebciaaDoorWFootNe
import Derived.Test.YthcmjcjgaebciaaDoorWAt
import Derived.Test.YthcmjcjgaebciaaDoorWEqStruct
import Derived.Test.YthcmjcjgaebciaaDoorWRepsOne
import Derived.Test.YthcmjcjgaebciaaDoorWInv
import Derived.Test.YthcmjcjgaebciaaDoorWInvWords
import Derived.Test.YthcmjcjgaebciaaDoorWGuard
import Derived.Test.YthcmjcjgaebciaaDoorWNEv
import Derived.Test.YthcmjcjgaebciaaDoorWMore
import Derived.Test.YthcmjcjgaebciaaDoorXWords
import Derived.Test.YthcmjcjgaebciaaDoorXTab
import Derived.Test.YthcmjcjgaebciaaDoorShelf
namespace Go.Proofs.YthcmjcjgaebciaaDoor.T
open Go.RowKit Go.Proofs.YthcmjcjgaebciaaDoorW.PrintWords Go.Proofs.YthcmjcjgaebciaaDoorW.PrintLast Go.Proofs.YthcmjcjgaebciaaDoorW.PrintMore
attribute [local go_sem] max2_int min2_int max_two min_two max_three min_three max_four min_four   -- for this text's walks alone
set_option linter.unusedVariables false
set_option linter.unusedSimpArgs false



def errW : Option Int → Value
  | none => .nilIface
  | some c => .iface 0 (.int .i64 c)
theorem errW_none : errW none = .nilIface := rfl
theorem errW_some (c : Int) : errW (some c) = .iface 0 (.int .i64 c) := rfl

theorem info5 : (Tryd.prog.info? 5).map (fun i => (i.zero, i.size, i.bytes)) = some (some (.int .u8 0), 1, 1) := by kernel_rfl
theorem info9 : (Tryd.prog.info? 9).map (fun i => (i.zero, i.size, i.bytes)) = some (some (.string ⟨#[]⟩), 1, 16) := by kernel_rfl
-- the values' own types

end Go.Proofs.YthcmjcjgaebciaaDoor.T
