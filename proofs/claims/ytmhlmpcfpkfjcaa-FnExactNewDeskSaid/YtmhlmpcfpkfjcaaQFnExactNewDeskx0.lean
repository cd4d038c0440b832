-- Written by a program of this session out of Lean's own print of the loaded program; Lean checks it.
import Derived.Test.YtmhlmpcfpkfjcaaProg
import Derived.Below
import Derived.Deep.Draws
import Derived.Deep.AppendLies
import Derived.Maps.AppendAt
import Derived.OwnWalk
import Derived.Laws.BytesArg
import Derived.Laws.MakeOwn
import Derived.Laws.OwnMore
import Derived.Deep.OwnRows
import Derived.Tactics
import Derived.Lib.ConvBytes
import Derived.Laws.Slices
import Derived.WalkKit
import Derived.KernelRfl
import Derived.RowKit3
import Derived.Deep.LoopGhost
import Derived.Deep.QuietTactic
import Derived.BigQuiet
import Derived.WideLaws
import Derived.Deep.DeepCutAuto
import Derived.Deep.CutBlock
import Derived.Deep.RegionHeld3
import Derived.Laws.Rows
import Derived.Lib.AppendStr
import Derived.ArgAppend
import Derived.Laws.IdiomCopy
import Derived.OrdersHeld
import Derived.Laws.BitsLemmas
import Derived.RowKit
import Derived.Test.YtmhlmpcfpkfjcaaWWords
import Derived.Test.YtmhlmpcfpkfjcaaWLast
import Derived.Test.YtmhlmpcfpkfjcaaWTab
import Derived.Test.YtmhlmpcfpkfjcaaWFour
import Derived.Test.YtmhlmpcfpkfjcaaWQPut
import Derived.Test.YtmhlmpcfpkfjcaaWApart
import Derived.Test.YtmhlmpcfpkfjcaaWArr
import Derived.Test.YtmhlmpcfpkfjcaaWZeros
import Derived.Test.YtmhlmpcfpkfjcaaWFoot
import Derived.Test.YtmhlmpcfpkfjcaaWKept
import Derived.Test.YtmhlmpcfpkfjcaaWShare
import Derived.Test.YtmhlmpcfpkfjcaaWN
import Derived.Test.YtmhlmpcfpkfjcaaWFootNe
import Derived.Test.YtmhlmpcfpkfjcaaWAt
import Derived.Test.YtmhlmpcfpkfjcaaWEqStruct
import Derived.Test.YtmhlmpcfpkfjcaaWRepsOne
import Derived.Test.YtmhlmpcfpkfjcaaWInv
import Derived.Test.YtmhlmpcfpkfjcaaWInvWords
import Derived.Test.YtmhlmpcfpkfjcaaWGuard
import Derived.Test.YtmhlmpcfpkfjcaaWNEv
import Derived.Test.YtmhlmpcfpkfjcaaWMore
import Derived.Test.YtmhlmpcfpkfjcaaXWords
namespace Go.Proofs.Ytmhlmpcfpkfjcaa.QFnExactNewDesk
open Go.RowKit Go.Proofs.YtmhlmpcfpkfjcaaW.PrintWords Go.Proofs.YtmhlmpcfpkfjcaaW.PrintLast Go.Proofs.YtmhlmpcfpkfjcaaW.PrintMore
attribute [local go_sem] max2_int min2_int max_two min_two max_three min_three max_four min_four   -- for this text's walks alone
set_option linter.unusedVariables false
set_option linter.unusedSimpArgs false



def errW : Option Int → Value
  | none => .nilIface
  | some c => .iface 0 (.int .i64 c)
theorem errW_none : errW none = .nilIface := rfl
theorem errW_some (c : Int) : errW (some c) = .iface 0 (.int .i64 c) := rfl

-- the values' own types

end Go.Proofs.Ytmhlmpcfpkfjcaa.QFnExactNewDesk
