import Derived.Test.YtmheeekbbhkmkaaDoorProg
import Derived.Below
import Derived.Deep.Draws
import Derived.Deep.AppendLies
import Derived.Maps.AppendAt
import Derived.OwnWalk
import Derived.Laws.BytesArg
import Derived.Laws.MakeOwn
import Derived.Laws.OwnMore
import Derived.Deep.OwnRows
import Derived.Tactics
import Derived.Lib.ConvBytes
import Derived.Laws.Slices
import Derived.WalkKit
import Derived.KernelRfl
import Derived.RowKit3
import Derived.Deep.LoopGhost
import Derived.Deep.QuietTactic
import Derived.BigQuiet
import Derived.WideLaws
import Derived.Deep.DeepCutAuto
import Derived.Deep.CutBlock
import Derived.Deep.RegionHeld3
import Derived.Laws.Rows
import Derived.Lib.AppendStr
import Derived.ArgAppend
import Derived.Laws.IdiomCopy
import Derived.OrdersHeld
import Derived.Laws.BitsLemmas
import Derived.RowKit
import Derived.Test.YtmheeekbbhkmkaaDoorQSHx1
import Derived.Test.YtmheeekbbhkmkaaDoorQSHx2
import Derived.Test.YtmheeekbbhkmkaaDoorQSHx3
import Derived.Test.YtmheeekbbhkmkaaDoorHandSHe
import Derived.Test.YtmheeekbbhkmkaaDoorCells
import Derived.Test.YtmheeekbbhkmkaaDoorWWords
import Derived.Test.YtmheeekbbhkmkaaDoorWLast
import Derived.Test.YtmheeekbbhkmkaaDoorWTab
import Derived.Test.YtmheeekbbhkmkaaDoorWQPut
import Derived.Test.YtmheeekbbhkmkaaDoorWApart
import Derived.Test.YtmheeekbbhkmkaaDoorWArr
import Derived.Test.YtmheeekbbhkmkaaDoorWZeros
import Derived.Test.YtmheeekbbhkmkaaDoorWFoot
import Derived.Test.YtmheeekbbhkmkaaDoorWKept
import Derived.Test.YtmheeekbbhkmkaaDoorWShare
import Derived.Test.YtmheeekbbhkmkaaDoorWN
import Derived.Test.YtmheeekbbhkmkaaDoorWEqStruct
import Derived.Test.YtmheeekbbhkmkaaDoorWRepsOne
import Derived.Test.YtmheeekbbhkmkaaDoorWGuard
import Derived.Test.YtmheeekbbhkmkaaDoorWNEv
import Derived.Test.YtmheeekbbhkmkaaDoorWMore
namespace Go.Proofs.YtmheeekbbhkmkaaDoor.QSC
open Go.RowKit Go.Proofs.YtmheeekbbhkmkaaDoor.QSH Go.Proofs.YtmheeekbbhkmkaaDoor.HandSH Go.Proofs.YtmheeekbbhkmkaaDoor.Cells Go.Proofs.YtmheeekbbhkmkaaDoorW.PrintWords Go.Proofs.YtmheeekbbhkmkaaDoorW.PrintLast Go.Proofs.YtmheeekbbhkmkaaDoorW.PrintMore
attribute [local go_sem] max2_int min2_int max_two min_two max_three min_three max_four min_four 
set_option linter.unusedVariables false
set_option linter.unusedSimpArgs false
theorem k37_heap : Kd.Heap k37 := Kd.heap_iso _ (Kd.heap_pair (Kd.heap_int .i64) (Kd.heap_int .i64))
theorem k45_heap : Kd.Heap k45 := Kd.heap_iso _ (Kd.heap_pair (Kd.heap_int .i64) (Kd.heap_pair (Kd.heap_int .i64) (Kd.heap_pair (Kd.heap_int .i64) (Kd.heap_pair (Kd.heap_int .i64) (Kd.heap_pair (Kd.heap_int .i64) (Kd.heap_pair (Kd.heap_int .i64) (Kd.heap_pair (Kd.heap_int .i64) (Kd.heap_pair (Kd.heap_int .i64) (Kd.heap_pair (Kd.heap_int .i64) (Kd.heap_pair (Kd.heap_int .i64) (Kd.heap_pair Kd.heap_string Kd.heap_string)))))))))))
end Go.Proofs.YtmheeekbbhkmkaaDoor.QSC
