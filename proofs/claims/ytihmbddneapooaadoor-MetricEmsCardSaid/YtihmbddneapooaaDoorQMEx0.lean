-- WRITTEN BY wip/print2.py, a program of this session, over contracts of this session's own; no print of print.sh
import Derived.Test.YtihmbddneapooaaDoorProg
import Derived.Below
import Derived.Deep.Draws
import Derived.Deep.AppendLies
import Derived.Maps.AppendAt
import Derived.OwnWalk
import Derived.Laws.BytesArg
import Derived.Laws.MakeOwn
import Derived.Laws.OwnMore
import Derived.Deep.OwnRows
import Derived.Tactics
import Derived.Lib.ConvBytes
import Derived.Laws.Slices
import Derived.WalkKit
import Derived.KernelRfl
import Derived.RowKit3
import Derived.Deep.LoopGhost
import Derived.Deep.QuietTactic
import Derived.BigQuiet
import Derived.WideLaws
import Derived.Deep.DeepCutAuto
import Derived.Deep.CutBlock
import Derived.Deep.RegionHeld3
import Derived.Laws.Rows
import Derived.Lib.AppendStr
import Derived.ArgAppend
import Derived.Laws.IdiomCopy
import Derived.OrdersHeld
import Derived.Laws.BitsLemmas
import Derived.RowKit
import Derived.Test.YtihmbddneapooaaDoorPMetricEmsx1
import Derived.Test.YtihmbddneapooaaDoorPMetricEmsx2
import Derived.Test.YtihmbddneapooaaDoorPMetricEmsx3
import Derived.Test.YtihmbddneapooaaDoorHandME
import Derived.Test.YtihmbddneapooaaDoorHandMEf
import Derived.Test.YtihmbddneapooaaDoorWWords
import Derived.Test.YtihmbddneapooaaDoorWLast
import Derived.Test.YtihmbddneapooaaDoorWTab
import Derived.Test.YtihmbddneapooaaDoorWFour
import Derived.Test.YtihmbddneapooaaDoorWQPut
import Derived.Test.YtihmbddneapooaaDoorWApart
import Derived.Test.YtihmbddneapooaaDoorWArr
import Derived.Test.YtihmbddneapooaaDoorWZeros
import Derived.Test.YtihmbddneapooaaDoorWFoot
import Derived.Test.YtihmbddneapooaaDoorWKept
import Derived.Test.YtihmbddneapooaaDoorWShare
import Derived.Test.YtihmbddneapooaaDoorWN
import Derived.Test.YtihmbddneapooaaDoorWFootNe
import Derived.Test.YtihmbddneapooaaDoorWAt
import Derived.Test.YtihmbddneapooaaDoorWEqStruct
import Derived.Test.YtihmbddneapooaaDoorWRepsOne
import Derived.Test.YtihmbddneapooaaDoorWInv
import Derived.Test.YtihmbddneapooaaDoorWInvWords
import Derived.Test.YtihmbddneapooaaDoorWGuard
import Derived.Test.YtihmbddneapooaaDoorWNEv
import Derived.Test.YtihmbddneapooaaDoorWMore
namespace Go.Proofs.YtihmbddneapooaaDoor.QME
open Go.RowKit Go.Proofs.YtihmbddneapooaaDoor.PMetricEms Go.Proofs.YtihmbddneapooaaDoor.HandMEf Go.Proofs.YtihmbddneapooaaDoor.HandME Go.Proofs.YtihmbddneapooaaDoorW.PrintWords Go.Proofs.YtihmbddneapooaaDoorW.PrintLast Go.Proofs.YtihmbddneapooaaDoorW.PrintMore
attribute [local go_sem] max2_int min2_int max_two min_two max_three min_three max_four min_four   -- for this text's walks alone
set_option linter.unusedVariables false
set_option linter.unusedSimpArgs false



def errW : Option Int → Value
  | none => .nilIface
  | some c => .iface 0 (.int .i64 c)
theorem errW_none : errW none = .nilIface := rfl
theorem errW_some (c : Int) : errW (some c) = .iface 0 (.int .i64 c) := rfl

theorem info3 : (Tryd.prog.info? 3).map (fun i => (i.zero, i.size, i.bytes)) = some (some (.int .i64 0), 1, 8) := by kernel_rfl
-- the values' own types

end Go.Proofs.YtihmbddneapooaaDoor.QME
