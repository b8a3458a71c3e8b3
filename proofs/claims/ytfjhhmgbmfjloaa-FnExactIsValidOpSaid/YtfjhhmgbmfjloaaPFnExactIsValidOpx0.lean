-- Printed by a program of mine (wip/myprint.py), which runs the printer of the kit with contracts of mine beside it.
import Derived.Test.YtfjhhmgbmfjloaaProg
import Derived.Below
import Derived.Deep.Draws
import Derived.Deep.AppendLies
import Derived.Maps.AppendAt
import Derived.OwnWalk
import Derived.Laws.BytesArg
import Derived.Laws.MakeOwn
import Derived.Laws.OwnMore
import Derived.Deep.OwnRows
import Derived.Tactics
import Derived.Lib.ConvBytes
import Derived.Laws.Slices
import Derived.WalkKit
import Derived.KernelRfl
import Derived.RowKit3
import Derived.Deep.LoopGhost
import Derived.Deep.QuietTactic
import Derived.BigQuiet
import Derived.WideLaws
import Derived.Deep.DeepCutAuto
import Derived.Deep.CutBlock
import Derived.Deep.RegionHeld3
import Derived.Laws.Rows
import Derived.Lib.AppendStr
import Derived.ArgAppend
import Derived.Laws.IdiomCopy
import Derived.OrdersHeld
import Derived.Laws.BitsLemmas
import Derived.RowKit
import Derived.Test.YtfjhhmgbmfjloaaFnK
import Derived.Test.YtfjhhmgbmfjloaaWWords
import Derived.Test.YtfjhhmgbmfjloaaWLast
import Derived.Test.YtfjhhmgbmfjloaaWTab
import Derived.Test.YtfjhhmgbmfjloaaWFour
import Derived.Test.YtfjhhmgbmfjloaaWQPut
import Derived.Test.YtfjhhmgbmfjloaaWApart
import Derived.Test.YtfjhhmgbmfjloaaWArr
import Derived.Test.YtfjhhmgbmfjloaaWZeros
import Derived.Test.YtfjhhmgbmfjloaaWFoot
import Derived.Test.YtfjhhmgbmfjloaaWKept
import Derived.Test.YtfjhhmgbmfjloaaWShare
import Derived.Test.YtfjhhmgbmfjloaaWN
import Derived.Test.YtfjhhmgbmfjloaaWFootNe
import Derived.Test.YtfjhhmgbmfjloaaWAt
import Derived.Test.YtfjhhmgbmfjloaaWEqStruct
import Derived.Test.YtfjhhmgbmfjloaaWRepsOne
import Derived.Test.YtfjhhmgbmfjloaaWInv
import Derived.Test.YtfjhhmgbmfjloaaWInvWords
import Derived.Test.YtfjhhmgbmfjloaaWGuard
import Derived.Test.YtfjhhmgbmfjloaaWNEv
import Derived.Test.YtfjhhmgbmfjloaaWMore
namespace Go.Proofs.Ytfjhhmgbmfjloaa.PFnExactIsValidOp
open Go.RowKit Go.Proofs.YtfjhhmgbmfjloaaW.PrintWords Go.Proofs.YtfjhhmgbmfjloaaW.PrintLast Go.Proofs.YtfjhhmgbmfjloaaW.PrintMore
attribute [local go_sem] max2_int min2_int max_two min_two max_three min_three max_four min_four   -- for this text's walks alone
set_option linter.unusedVariables false
set_option linter.unusedSimpArgs false



def errW : Option Int → Value
  | none => .nilIface
  | some c => .iface 0 (.int .i64 c)
theorem errW_none : errW none = .nilIface := rfl
theorem errW_some (c : Int) : errW (some c) = .iface 0 (.int .i64 c) := rfl

-- the values' own types

end Go.Proofs.Ytfjhhmgbmfjloaa.PFnExactIsValidOp
