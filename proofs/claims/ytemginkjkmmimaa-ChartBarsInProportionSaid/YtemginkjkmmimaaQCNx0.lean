-- WRITTEN BY wip/print2.py, a program of this session, over contracts of this session's own; no print of print.sh
import Derived.Test.YtemginkjkmmimaaProg
import Derived.Below
import Derived.Deep.Draws
import Derived.Deep.AppendLies
import Derived.Maps.AppendAt
import Derived.OwnWalk
import Derived.Laws.BytesArg
import Derived.Laws.MakeOwn
import Derived.Laws.OwnMore
import Derived.Deep.OwnRows
import Derived.Tactics
import Derived.Lib.ConvBytes
import Derived.Laws.Slices
import Derived.WalkKit
import Derived.KernelRfl
import Derived.RowKit3
import Derived.Deep.LoopGhost
import Derived.Deep.QuietTactic
import Derived.BigQuiet
import Derived.WideLaws
import Derived.Deep.DeepCutAuto
import Derived.Deep.CutBlock
import Derived.Deep.RegionHeld3
import Derived.Laws.Rows
import Derived.Lib.AppendStr
import Derived.ArgAppend
import Derived.Laws.IdiomCopy
import Derived.OrdersHeld
import Derived.Laws.BitsLemmas
import Derived.RowKit
import Derived.Test.YtemginkjkmmimaaCells
import Derived.Test.YtemginkjkmmimaaWWords
import Derived.Test.YtemginkjkmmimaaWLast
import Derived.Test.YtemginkjkmmimaaWTab
import Derived.Test.YtemginkjkmmimaaWFour
import Derived.Test.YtemginkjkmmimaaWQPut
import Derived.Test.YtemginkjkmmimaaWApart
import Derived.Test.YtemginkjkmmimaaWArr
import Derived.Test.YtemginkjkmmimaaWZeros
import Derived.Test.YtemginkjkmmimaaWFoot
import Derived.Test.YtemginkjkmmimaaWKept
import Derived.Test.YtemginkjkmmimaaWShare
import Derived.Test.YtemginkjkmmimaaWN
import Derived.Test.YtemginkjkmmimaaWFootNe
import Derived.Test.YtemginkjkmmimaaWAt
import Derived.Test.YtemginkjkmmimaaWEqStruct
import Derived.Test.YtemginkjkmmimaaWRepsOne
import Derived.Test.YtemginkjkmmimaaWInv
import Derived.Test.YtemginkjkmmimaaWInvWords
import Derived.Test.YtemginkjkmmimaaWGuard
import Derived.Test.YtemginkjkmmimaaWNEv
import Derived.Test.YtemginkjkmmimaaWMore
namespace Go.Proofs.Ytemginkjkmmimaa.QCN
open Go.RowKit Go.Proofs.Ytemginkjkmmimaa.Cells Go.Proofs.YtemginkjkmmimaaW.PrintWords Go.Proofs.YtemginkjkmmimaaW.PrintLast Go.Proofs.YtemginkjkmmimaaW.PrintMore
attribute [local go_sem] max2_int min2_int max_two min_two max_three min_three max_four min_four   -- for this text's walks alone
set_option linter.unusedVariables false
set_option linter.unusedSimpArgs false



def errW : Option Int → Value
  | none => .nilIface
  | some c => .iface 0 (.int .i64 c)
theorem errW_none : errW none = .nilIface := rfl
theorem errW_some (c : Int) : errW (some c) = .iface 0 (.int .i64 c) := rfl

-- the values' own types

end Go.Proofs.Ytemginkjkmmimaa.QCN
