/- Written by a program of this session (myprint.py over the kit's print). -/
import Derived.Test.YtoeapnempdgagaaQx0
import Derived.Test.YtoeapnempdgagaaProg
import Derived.Below
import Derived.Deep.Draws
import Derived.Deep.AppendLies
import Derived.Maps.AppendAt
import Derived.OwnWalk
import Derived.Laws.BytesArg
import Derived.Laws.MakeOwn
import Derived.Laws.OwnMore
import Derived.Deep.OwnRows
import Derived.Tactics
import Derived.Lib.ConvBytes
import Derived.Laws.Slices
import Derived.WalkKit
import Derived.KernelRfl
import Derived.RowKit3
import Derived.Deep.LoopGhost
import Derived.Deep.QuietTactic
import Derived.BigQuiet
import Derived.WideLaws
import Derived.Deep.DeepCutAuto
import Derived.Deep.CutBlock
import Derived.Deep.RegionHeld3
import Derived.Laws.Rows
import Derived.Lib.AppendStr
import Derived.ArgAppend
import Derived.Laws.IdiomCopy
import Derived.OrdersHeld
import Derived.Laws.BitsLemmas
import Derived.RowKit
import Derived.Test.YtoeapnempdgagaaExtA
import Derived.Test.YtoeapnempdgagaaWWords
import Derived.Test.YtoeapnempdgagaaWLast
import Derived.Test.YtoeapnempdgagaaWTab
import Derived.Test.YtoeapnempdgagaaWFour
import Derived.Test.YtoeapnempdgagaaWQPut
import Derived.Test.YtoeapnempdgagaaWApart
import Derived.Test.YtoeapnempdgagaaWArr
import Derived.Test.YtoeapnempdgagaaWZeros
import Derived.Test.YtoeapnempdgagaaWFoot
import Derived.Test.YtoeapnempdgagaaWKept
import Derived.Test.YtoeapnempdgagaaWShare
import Derived.Test.YtoeapnempdgagaaWN
import Derived.Test.YtoeapnempdgagaaWFootNe
import Derived.Test.YtoeapnempdgagaaWAt
import Derived.Test.YtoeapnempdgagaaWEqStruct
import Derived.Test.YtoeapnempdgagaaWRepsOne
import Derived.Test.YtoeapnempdgagaaWInv
import Derived.Test.YtoeapnempdgagaaWInvWords
import Derived.Test.YtoeapnempdgagaaWGuard
import Derived.Test.YtoeapnempdgagaaWNEv
import Derived.Test.YtoeapnempdgagaaWMore
namespace Go.Proofs.Ytoeapnempdgagaa.RA
open Go.RowKit Go.Proofs.Ytoeapnempdgagaa.Q Go.Proofs.Ytoeapnempdgagaa.X Go.Proofs.YtoeapnempdgagaaW.PrintWords Go.Proofs.YtoeapnempdgagaaW.PrintLast Go.Proofs.YtoeapnempdgagaaW.PrintMore
attribute [local go_sem] max2_int min2_int max_two min_two max_three min_three max_four min_four   -- for this text's walks alone
set_option linter.unusedVariables false
set_option linter.unusedSimpArgs false



def errW : Option Int → Value
  | none => .nilIface
  | some c => .iface 0 (.int .i64 c)
theorem errW_none : errW none = .nilIface := rfl
theorem errW_some (c : Int) : errW (some c) = .iface 0 (.int .i64 c) := rfl

-- the values' own types

end Go.Proofs.Ytoeapnempdgagaa.RA
