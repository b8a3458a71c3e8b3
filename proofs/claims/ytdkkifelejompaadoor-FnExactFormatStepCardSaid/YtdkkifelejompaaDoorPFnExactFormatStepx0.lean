-- Printed by a program of mine (wip/myprint.py), which runs the printer of the kit with contracts of mine beside it.
import Derived.Test.YtdkkifelejompaaDoorProg
import Derived.Below
import Derived.Deep.Draws
import Derived.Deep.AppendLies
import Derived.Maps.AppendAt
import Derived.OwnWalk
import Derived.Laws.BytesArg
import Derived.Laws.MakeOwn
import Derived.Laws.OwnMore
import Derived.Deep.OwnRows
import Derived.Tactics
import Derived.Lib.ConvBytes
import Derived.Laws.Slices
import Derived.WalkKit
import Derived.KernelRfl
import Derived.RowKit3
import Derived.Deep.LoopGhost
import Derived.Deep.QuietTactic
import Derived.BigQuiet
import Derived.WideLaws
import Derived.Deep.DeepCutAuto
import Derived.Deep.CutBlock
import Derived.Deep.RegionHeld3
import Derived.Laws.Rows
import Derived.Lib.AppendStr
import Derived.ArgAppend
import Derived.Laws.IdiomCopy
import Derived.OrdersHeld
import Derived.Laws.BitsLemmas
import Derived.RowKit
import Derived.Test.YtdkkifelejompaaDoorShelf
import Derived.Test.YtdkkifelejompaaDoorFnK
import Derived.Test.YtdkkifelejompaaDoorWWords
import Derived.Test.YtdkkifelejompaaDoorWLast
import Derived.Test.YtdkkifelejompaaDoorWTab
import Derived.Test.YtdkkifelejompaaDoorWFour
import Derived.Test.YtdkkifelejompaaDoorWQPut
import Derived.Test.YtdkkifelejompaaDoorWApart
import Derived.Test.YtdkkifelejompaaDoorWArr
import Derived.Test.YtdkkifelejompaaDoorWZeros
import Derived.Test.YtdkkifelejompaaDoorWFoot
import Derived.Test.YtdkkifelejompaaDoorWKept
import Derived.Test.YtdkkifelejompaaDoorWShare
import Derived.Test.YtdkkifelejompaaDoorWN
import Derived.Test.YtdkkifelejompaaDoorWFootNe
import Derived.Test.YtdkkifelejompaaDoorWAt
import Derived.Test.YtdkkifelejompaaDoorWEqStruct
import Derived.Test.YtdkkifelejompaaDoorWRepsOne
import Derived.Test.YtdkkifelejompaaDoorWInv
import Derived.Test.YtdkkifelejompaaDoorWInvWords
import Derived.Test.YtdkkifelejompaaDoorWGuard
import Derived.Test.YtdkkifelejompaaDoorWNEv
import Derived.Test.YtdkkifelejompaaDoorWMore
namespace Go.Proofs.YtdkkifelejompaaDoor.PFnExactFormatStep
open Go.RowKit Go.Proofs.YtdkkifelejompaaDoorW.PrintWords Go.Proofs.YtdkkifelejompaaDoorW.PrintLast Go.Proofs.YtdkkifelejompaaDoorW.PrintMore
attribute [local go_sem] max2_int min2_int max_two min_two max_three min_three max_four min_four   -- for this text's walks alone
set_option linter.unusedVariables false
set_option linter.unusedSimpArgs false



def errW : Option Int → Value
  | none => .nilIface
  | some c => .iface 0 (.int .i64 c)
theorem errW_none : errW none = .nilIface := rfl
theorem errW_some (c : Int) : errW (some c) = .iface 0 (.int .i64 c) := rfl

theorem info3 : (Tryd.prog.info? 3).map (fun i => (i.zero, i.size, i.bytes)) = some (some (.int .i64 0), 1, 8) := by kernel_rfl
theorem info5 : (Tryd.prog.info? 5).map (fun i => (i.zero, i.size, i.bytes)) = some (some (.int .u8 0), 1, 1) := by kernel_rfl
theorem info9 : (Tryd.prog.info? 9).map (fun i => (i.zero, i.size, i.bytes)) = some (some (.string ⟨#[]⟩), 1, 16) := by kernel_rfl
-- the values' own types

end Go.Proofs.YtdkkifelejompaaDoor.PFnExactFormatStep
