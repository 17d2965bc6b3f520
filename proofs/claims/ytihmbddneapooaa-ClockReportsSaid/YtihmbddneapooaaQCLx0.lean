-- WRITTEN BY wip/print2.py, a program of this session, over contracts of this session's own; no print of print.sh
import Derived.Test.YtihmbddneapooaaProg
import Derived.Below
import Derived.Deep.Draws
import Derived.Deep.AppendLies
import Derived.Maps.AppendAt
import Derived.OwnWalk
import Derived.Laws.BytesArg
import Derived.Laws.MakeOwn
import Derived.Laws.OwnMore
import Derived.Deep.OwnRows
import Derived.Tactics
import Derived.Lib.ConvBytes
import Derived.Laws.Slices
import Derived.WalkKit
import Derived.KernelRfl
import Derived.RowKit3
import Derived.Deep.LoopGhost
import Derived.Deep.QuietTactic
import Derived.BigQuiet
import Derived.WideLaws
import Derived.Deep.DeepCutAuto
import Derived.Deep.CutBlock
import Derived.Deep.RegionHeld3
import Derived.Laws.Rows
import Derived.Lib.AppendStr
import Derived.ArgAppend
import Derived.Laws.IdiomCopy
import Derived.OrdersHeld
import Derived.Laws.BitsLemmas
import Derived.RowKit
import Derived.Test.YtihmbddneapooaaHandCKe
import Derived.Test.YtihmbddneapooaaWWords
import Derived.Test.YtihmbddneapooaaWLast
import Derived.Test.YtihmbddneapooaaWTab
import Derived.Test.YtihmbddneapooaaWFour
import Derived.Test.YtihmbddneapooaaWQPut
import Derived.Test.YtihmbddneapooaaWApart
import Derived.Test.YtihmbddneapooaaWArr
import Derived.Test.YtihmbddneapooaaWZeros
import Derived.Test.YtihmbddneapooaaWFoot
import Derived.Test.YtihmbddneapooaaWKept
import Derived.Test.YtihmbddneapooaaWShare
import Derived.Test.YtihmbddneapooaaWN
import Derived.Test.YtihmbddneapooaaWFootNe
import Derived.Test.YtihmbddneapooaaWAt
import Derived.Test.YtihmbddneapooaaWEqStruct
import Derived.Test.YtihmbddneapooaaWRepsOne
import Derived.Test.YtihmbddneapooaaWInv
import Derived.Test.YtihmbddneapooaaWInvWords
import Derived.Test.YtihmbddneapooaaWGuard
import Derived.Test.YtihmbddneapooaaWNEv
import Derived.Test.YtihmbddneapooaaWMore
namespace Go.Proofs.Ytihmbddneapooaa.QCL
open Go.RowKit Go.Proofs.Ytihmbddneapooaa.PClockLeft Go.Proofs.Ytihmbddneapooaa.HandCK Go.Proofs.YtihmbddneapooaaW.PrintWords Go.Proofs.YtihmbddneapooaaW.PrintLast Go.Proofs.YtihmbddneapooaaW.PrintMore
attribute [local go_sem] max2_int min2_int max_two min_two max_three min_three max_four min_four   -- for this text's walks alone
set_option linter.unusedVariables false
set_option linter.unusedSimpArgs false



end Go.Proofs.Ytihmbddneapooaa.QCL
