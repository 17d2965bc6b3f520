/-
  NARROWER THAN 'FOR EVERY INPUT', by the rows' own cells (each row's printed sentence says how): MetricWidths: laid · MetricFits: laid.
  DERIVED. THE GIVEN ROWS OF THIS SEAT. 2 by the template 'for every input the law returns true; each argument reads behind the call as it read before'; 0 by the template 'total and deterministic' (their statements: YtmoimbopclljeaaDoorTotals.lean).
  GIVEN WITH THE SEED: the statements are not yours to turn. If you find one false, say at which input.
  Laid BY PROGRAM, IN A SANDBOX (cutbox-rows.mjs): the forced cells as the released guide's own fill.sh prints them over the translation e1f6e18da9e25604… (all of the seat's roots in one cut). By AI agents, Wed Nov 11 2026. No macro, syntax, notation, axiom, sorry.
-/
import Derived.Test.YtmoimbopclljeaaDoorChecked
import GoSem.Claim
import GoSem.ClaimJoined
import GoSem.ClaimMapViews
import Derived.JoinedTies
import Derived.KernelRfl
namespace Go.Proofs.YtmoimbopclljeaaDoor
/- THE CELL 'sum', in the pinned program and in every row, IS THE sha256 OF THE DUMP (.gsa) THAT YtmoimbopclljeaaDoorProg.lean LOADS. Nothing in Lean hashes anything: it is a label: what it is worth is what the hold of that sum in a sandbox is worth. -/
noncomputable def Tryd.pinned : Pinned := { name := "ytmoimbopclljeaadoor", sum := "e1f6e18da9e2560425feabecbf502056df8acca09f4002b6ca74be4188760545", checked := Tryd.checked }
namespace Rows
def none {H : Type} : Left H := { results := [], args := [] }

/- WHAT THE LISTED PACKAGE-LEVEL VARIABLES READ AS WHEN THE CALL BEGINS. Each datum BY PROGRAM (the guide's laid-datum.mjs) off the statement by which the dump's own 'gosem.cut.vars' lays the variable. In a bare row this is a premise. The card (YtmoimbopclljeaaDoorCards.lean) ties it to the program's text. -/
def laid_chancery_metric_marks {H : Type} : DataW H := .slice [.agg [.lit (.int .i64 173), .lit (.int .i64 173), .lit (.int .i64 0)], .agg [.lit (.int .i64 768), .lit (.int .i64 879), .lit (.int .i64 0)], .agg [.lit (.int .i64 1425), .lit (.int .i64 1469), .lit (.int .i64 0)], .agg [.lit (.int .i64 1471), .lit (.int .i64 1471), .lit (.int .i64 0)], .agg [.lit (.int .i64 1473), .lit (.int .i64 1474), .lit (.int .i64 0)], .agg [.lit (.int .i64 1552), .lit (.int .i64 1562), .lit (.int .i64 0)], .agg [.lit (.int .i64 1611), .lit (.int .i64 1631), .lit (.int .i64 0)], .agg [.lit (.int .i64 8203), .lit (.int .i64 8207), .lit (.int .i64 0)], .agg [.lit (.int .i64 8234), .lit (.int .i64 8238), .lit (.int .i64 0)], .agg [.lit (.int .i64 8288), .lit (.int .i64 8297), .lit (.int .i64 0)], .agg [.lit (.int .i64 65024), .lit (.int .i64 65039), .lit (.int .i64 0)], .agg [.lit (.int .i64 65532), .lit (.int .i64 65532), .lit (.int .i64 0)]] []
def laid_chancery_metric_others {H : Type} : DataW H := .slice [.agg [.lit (.int .i64 9), .lit (.int .i64 10), .lit (.int .i64 0)], .agg [.lit (.int .i64 48), .lit (.int .i64 57), .lit (.int .i64 500)], .agg [.lit (.int .i64 160), .lit (.int .i64 160), .lit (.int .i64 250)], .agg [.lit (.int .i64 192), .lit (.int .i64 222), .lit (.int .i64 660)], .agg [.lit (.int .i64 223), .lit (.int .i64 591), .lit (.int .i64 500)], .agg [.lit (.int .i64 880), .lit (.int .i64 1327), .lit (.int .i64 560)], .agg [.lit (.int .i64 1424), .lit (.int .i64 2303), .lit (.int .i64 520)], .agg [.lit (.int .i64 4352), .lit (.int .i64 4447), .lit (.int .i64 1000)], .agg [.lit (.int .i64 8212), .lit (.int .i64 8212), .lit (.int .i64 1000)], .agg [.lit (.int .i64 8208), .lit (.int .i64 8211), .lit (.int .i64 500)], .agg [.lit (.int .i64 11904), .lit (.int .i64 42191), .lit (.int .i64 1000)], .agg [.lit (.int .i64 44032), .lit (.int .i64 55203), .lit (.int .i64 1000)], .agg [.lit (.int .i64 63744), .lit (.int .i64 64255), .lit (.int .i64 1000)], .agg [.lit (.int .i64 65280), .lit (.int .i64 65376), .lit (.int .i64 1000)], .agg [.lit (.int .i64 131072), .lit (.int .i64 262141), .lit (.int .i64 1000)], .agg [.lit (.int .i64 65), .lit (.int .i64 90), .lit (.int .i64 660)], .agg [.lit (.int .i64 33), .lit (.int .i64 126), .lit (.int .i64 500)]] []

/-- 'chancerylaw3.MetricWidths': WHATEVER THE INPUT: true; the input reads as it did. -/
def metricWidthsSpec : ChangeSpec := { name := "metricWidths", fn := fun _ => fun
  | [d1, d2, d3, d4] => { results := [.lit (.bool true)], args := [d1, d2, d3, d4] }
  | _ => none }
def metricWidthsRow : OpenClaim := { program := "ytmoimbopclljeaadoor", sum := "e1f6e18da9e2560425feabecbf502056df8acca09f4002b6ca74be4188760545", func := "chancery/chancerylaw3.MetricWidths", spec := "metricWidths", unfollowed := true, recurses := true, named := ["chancery/metric.others", "chancery/metric.marks"], apart := false, laid := [("chancery/metric.marks", laid_chancery_metric_marks), ("chancery/metric.others", laid_chancery_metric_others)] }
def MetricWidthsSaid : Prop := metricWidthsRow.holds Tryd.pinned (OpenSpec.ofChange metricWidthsSpec)

/-- ITS FALSE NEIGHBOUR: 'it returns false'. Refute it at one input. -/
def metricWidthsWrong : ChangeSpec := { name := "metricWidths", fn := fun _ => fun
  | [d1, d2, d3, d4] => { results := [.lit (.bool false)], args := [d1, d2, d3, d4] }
  | _ => none }
def MetricWidthsWrongFalsely : Prop := metricWidthsRow.holds Tryd.pinned (OpenSpec.ofChange metricWidthsWrong)

/-- 'chancerylaw3.MetricFits': WHATEVER THE INPUT: true; the input reads as it did. -/
def metricFitsSpec : ChangeSpec := { name := "metricFits", fn := fun _ => fun
  | [d1, d2, d3] => { results := [.lit (.bool true)], args := [d1, d2, d3] }
  | _ => none }
def metricFitsRow : OpenClaim := { program := "ytmoimbopclljeaadoor", sum := "e1f6e18da9e2560425feabecbf502056df8acca09f4002b6ca74be4188760545", func := "chancery/chancerylaw3.MetricFits", spec := "metricFits", unfollowed := true, recurses := true, named := ["chancery/metric.others", "chancery/metric.marks"], apart := false, laid := [("chancery/metric.marks", laid_chancery_metric_marks), ("chancery/metric.others", laid_chancery_metric_others)] }
def MetricFitsSaid : Prop := metricFitsRow.holds Tryd.pinned (OpenSpec.ofChange metricFitsSpec)

/-- ITS FALSE NEIGHBOUR: 'it returns false'. Refute it at one input. -/
def metricFitsWrong : ChangeSpec := { name := "metricFits", fn := fun _ => fun
  | [d1, d2, d3] => { results := [.lit (.bool false)], args := [d1, d2, d3] }
  | _ => none }
def MetricFitsWrongFalsely : Prop := metricFitsRow.holds Tryd.pinned (OpenSpec.ofChange metricFitsWrong)

/- THE SECOND FORM. 'bulk': how many values and letters a reading holds, each counted each time it is reached (what is shared counts as often as it is met; a slice's spare places count too). A statement '..UptoSaid' is the law's where the arguments, and the package variables that the reading takes, are together of bulk at most 1048576: NARROWER than '..Said'. Prove '..Said' where nothing that the law and all that it calls make is longer than what came in: it says more and counts as full. Else prove '..UptoSaid'. A law counts once. -/
mutual
def uptoBulk {H : Type} : DataW H → Nat
  | .lit (.string bytes) => bytes.length + 1
  | .lit _ => 1
  | .nil => 1
  | .ptr d => uptoBulk d + 1
  | .slice elems spare => uptoBulkAll elems + uptoBulkAll spare + 1
  | .agg parts => uptoBulkAll parts + 1
  | .iface _ d => uptoBulk d + 1
  | .map entries => uptoBulkEntries entries + 1
  | .held _ => 1
def uptoBulkAll {H : Type} : List (DataW H) → Nat
  | [] => 0
  | d :: r => uptoBulk d + uptoBulkAll r
def uptoBulkEntries {H : Type} : List (Lit × DataW H) → Nat
  | [] => 0
  | x :: r => uptoBulkEntry x + uptoBulkEntries r
def uptoBulkEntry {H : Type} : Lit × DataW H → Nat
  | (.string bytes, d) => bytes.length + uptoBulk d + 1
  | (_, d) => uptoBulk d + 1
 end
def uptoSmall : (H : Type) → List (DataW H) → Bool := fun _ ds => decide (uptoBulkAll ds ≤ 1048576)
def OpenSpec.upto (s : _root_.Go.ChangeSpec) : _root_.Go.OpenSpec := { _root_.Go.OpenSpec.ofChange s with cond := some uptoSmall }

/-- 'chancerylaw3.MetricWidths', WHERE WHAT IT READS IS OF BULK AT MOST 1048576: true; the input reads as it did. -/
def metricWidthsUptoRow : OpenClaim := { program := "ytmoimbopclljeaadoor", sum := "e1f6e18da9e2560425feabecbf502056df8acca09f4002b6ca74be4188760545", func := "chancery/chancerylaw3.MetricWidths", spec := "metricWidths", unfollowed := true, recurses := true, named := ["chancery/metric.others", "chancery/metric.marks"], apart := false, laid := [("chancery/metric.marks", laid_chancery_metric_marks), ("chancery/metric.others", laid_chancery_metric_others)], narrowed := true }
def MetricWidthsUptoSaid : Prop := metricWidthsUptoRow.holds Tryd.pinned (OpenSpec.upto metricWidthsSpec)

/-- 'chancerylaw3.MetricFits', WHERE WHAT IT READS IS OF BULK AT MOST 1048576: true; the input reads as it did. -/
def metricFitsUptoRow : OpenClaim := { program := "ytmoimbopclljeaadoor", sum := "e1f6e18da9e2560425feabecbf502056df8acca09f4002b6ca74be4188760545", func := "chancery/chancerylaw3.MetricFits", spec := "metricFits", unfollowed := true, recurses := true, named := ["chancery/metric.others", "chancery/metric.marks"], apart := false, laid := [("chancery/metric.marks", laid_chancery_metric_marks), ("chancery/metric.others", laid_chancery_metric_others)], narrowed := true }
def MetricFitsUptoSaid : Prop := metricFitsUptoRow.holds Tryd.pinned (OpenSpec.upto metricFitsSpec)

end Rows
end Go.Proofs.YtmoimbopclljeaaDoor
