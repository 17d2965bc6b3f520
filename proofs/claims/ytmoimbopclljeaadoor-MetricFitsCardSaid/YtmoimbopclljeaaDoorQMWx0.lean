-- WRITTEN BY wip/print2.py, a program of this session, over contracts of this session's own; no print of print.sh
import Derived.Test.YtmoimbopclljeaaDoorProg
import Derived.Below
import Derived.Deep.Draws
import Derived.Deep.AppendLies
import Derived.Maps.AppendAt
import Derived.OwnWalk
import Derived.Laws.BytesArg
import Derived.Laws.MakeOwn
import Derived.Laws.OwnMore
import Derived.Deep.OwnRows
import Derived.Tactics
import Derived.Lib.ConvBytes
import Derived.Laws.Slices
import Derived.WalkKit
import Derived.KernelRfl
import Derived.RowKit3
import Derived.Deep.LoopGhost
import Derived.Deep.QuietTactic
import Derived.BigQuiet
import Derived.WideLaws
import Derived.Deep.DeepCutAuto
import Derived.Deep.CutBlock
import Derived.Deep.RegionHeld3
import Derived.Laws.Rows
import Derived.Lib.AppendStr
import Derived.ArgAppend
import Derived.Laws.IdiomCopy
import Derived.OrdersHeld
import Derived.Laws.BitsLemmas
import Derived.RowKit
import Derived.Test.YtmoimbopclljeaaDoorPMetricWidthsx1
import Derived.Test.YtmoimbopclljeaaDoorPMetricWidthsx2
import Derived.Test.YtmoimbopclljeaaDoorPMetricWidthsx3
import Derived.Test.YtmoimbopclljeaaDoorHandMW
import Derived.Test.YtmoimbopclljeaaDoorHandMWf
import Derived.Test.YtmoimbopclljeaaDoorWWords
import Derived.Test.YtmoimbopclljeaaDoorWLast
import Derived.Test.YtmoimbopclljeaaDoorWTab
import Derived.Test.YtmoimbopclljeaaDoorWFour
import Derived.Test.YtmoimbopclljeaaDoorWQPut
import Derived.Test.YtmoimbopclljeaaDoorWApart
import Derived.Test.YtmoimbopclljeaaDoorWArr
import Derived.Test.YtmoimbopclljeaaDoorWZeros
import Derived.Test.YtmoimbopclljeaaDoorWFoot
import Derived.Test.YtmoimbopclljeaaDoorWKept
import Derived.Test.YtmoimbopclljeaaDoorWShare
import Derived.Test.YtmoimbopclljeaaDoorWN
import Derived.Test.YtmoimbopclljeaaDoorWFootNe
import Derived.Test.YtmoimbopclljeaaDoorWAt
import Derived.Test.YtmoimbopclljeaaDoorWEqStruct
import Derived.Test.YtmoimbopclljeaaDoorWRepsOne
import Derived.Test.YtmoimbopclljeaaDoorWInv
import Derived.Test.YtmoimbopclljeaaDoorWInvWords
import Derived.Test.YtmoimbopclljeaaDoorWGuard
import Derived.Test.YtmoimbopclljeaaDoorWNEv
import Derived.Test.YtmoimbopclljeaaDoorWMore
namespace Go.Proofs.YtmoimbopclljeaaDoor.QMW
open Go.RowKit Go.Proofs.YtmoimbopclljeaaDoor.PMetricWidths Go.Proofs.YtmoimbopclljeaaDoor.HandMWf Go.Proofs.YtmoimbopclljeaaDoor.HandMW Go.Proofs.YtmoimbopclljeaaDoorW.PrintWords Go.Proofs.YtmoimbopclljeaaDoorW.PrintLast Go.Proofs.YtmoimbopclljeaaDoorW.PrintMore
attribute [local go_sem] max2_int min2_int max_two min_two max_three min_three max_four min_four   -- for this text's walks alone
set_option linter.unusedVariables false
set_option linter.unusedSimpArgs false



def errW : Option Int → Value
  | none => .nilIface
  | some c => .iface 0 (.int .i64 c)
theorem errW_none : errW none = .nilIface := rfl
theorem errW_some (c : Int) : errW (some c) = .iface 0 (.int .i64 c) := rfl

theorem info3 : (Tryd.prog.info? 3).map (fun i => (i.zero, i.size, i.bytes)) = some (some (.int .i64 0), 1, 8) := by kernel_rfl
-- the values' own types

end Go.Proofs.YtmoimbopclljeaaDoor.QMW
