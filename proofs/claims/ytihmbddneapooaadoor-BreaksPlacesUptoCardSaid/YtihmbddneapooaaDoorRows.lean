/-
  NARROWER THAN 'FOR EVERY INPUT', by the rows' own cells (each row's printed sentence says how): PatternCharacters: laid · BidiClasses: laid · MetricEms: laid · BreaksPlaces: laid.
  DERIVED. THE GIVEN ROWS OF THIS SEAT. 4 by the template 'for every input the law returns true; each argument reads behind the call as it read before'; 0 by the template 'total and deterministic' (their statements: YtihmbddneapooaaDoorTotals.lean).
  GIVEN WITH THE SEED: the statements are not yours to turn. If you find one false, say at which input.
  Laid BY PROGRAM, IN A SANDBOX (cutbox-rows.mjs): the forced cells as the released guide's own fill.sh prints them over the translation 245f3777ff521d70… (all of the seat's roots in one cut). By AI agents, Wed Nov 11 2026. No macro, syntax, notation, axiom, sorry.
-/
import Derived.Test.YtihmbddneapooaaDoorChecked
import GoSem.Claim
import GoSem.ClaimJoined
import GoSem.ClaimMapViews
import Derived.JoinedTies
import Derived.KernelRfl
namespace Go.Proofs.YtihmbddneapooaaDoor
/- THE CELL 'sum', in the pinned program and in every row, IS THE sha256 OF THE DUMP (.gsa) THAT YtihmbddneapooaaDoorProg.lean LOADS. Nothing in Lean hashes anything: it is a label: what it is worth is what the hold of that sum in a sandbox is worth. -/
noncomputable def Tryd.pinned : Pinned := { name := "ytihmbddneapooaadoor", sum := "245f3777ff521d7028b937162022ae7b8318ba3d2236802d4329adcb86a2d488", checked := Tryd.checked }
namespace Rows
def none {H : Type} : Left H := { results := [], args := [] }

/- WHAT THE LISTED PACKAGE-LEVEL VARIABLES READ AS WHEN THE CALL BEGINS. Each datum BY PROGRAM (the guide's laid-datum.mjs) off the statement by which the dump's own 'gosem.cut.vars' lays the variable. In a bare row this is a premise. The card (YtihmbddneapooaaDoorCards.lean) ties it to the program's text. -/
def laid_chancery_pattern_cases {H : Type} : DataW H := .slice [.agg [.lit (.int .i64 65), .lit (.int .i64 90), .lit (.int .i64 32)], .agg [.lit (.int .i64 192), .lit (.int .i64 214), .lit (.int .i64 32)], .agg [.lit (.int .i64 216), .lit (.int .i64 222), .lit (.int .i64 32)], .agg [.lit (.int .i64 913), .lit (.int .i64 929), .lit (.int .i64 32)], .agg [.lit (.int .i64 931), .lit (.int .i64 937), .lit (.int .i64 32)], .agg [.lit (.int .i64 1024), .lit (.int .i64 1039), .lit (.int .i64 80)], .agg [.lit (.int .i64 1040), .lit (.int .i64 1071), .lit (.int .i64 32)]] []
def laid_chancery_pattern_letters {H : Type} : DataW H := .slice [.agg [.lit (.int .i64 48), .lit (.int .i64 57)], .agg [.lit (.int .i64 65), .lit (.int .i64 90)], .agg [.lit (.int .i64 95), .lit (.int .i64 95)], .agg [.lit (.int .i64 97), .lit (.int .i64 122)], .agg [.lit (.int .i64 192), .lit (.int .i64 591)], .agg [.lit (.int .i64 880), .lit (.int .i64 1535)]] []
def laid_chancery_bidi_table {H : Type} : DataW H := .slice [.agg [.lit (.int .i64 9), .lit (.int .i64 9), .lit (.int .i64 11)], .agg [.lit (.int .i64 10), .lit (.int .i64 10), .lit (.int .i64 10)], .agg [.lit (.int .i64 0), .lit (.int .i64 31), .lit (.int .i64 9)], .agg [.lit (.int .i64 32), .lit (.int .i64 32), .lit (.int .i64 12)], .agg [.lit (.int .i64 35), .lit (.int .i64 37), .lit (.int .i64 5)], .agg [.lit (.int .i64 43), .lit (.int .i64 43), .lit (.int .i64 4)], .agg [.lit (.int .i64 45), .lit (.int .i64 45), .lit (.int .i64 4)], .agg [.lit (.int .i64 44), .lit (.int .i64 44), .lit (.int .i64 7)], .agg [.lit (.int .i64 46), .lit (.int .i64 47), .lit (.int .i64 7)], .agg [.lit (.int .i64 58), .lit (.int .i64 58), .lit (.int .i64 7)], .agg [.lit (.int .i64 48), .lit (.int .i64 57), .lit (.int .i64 3)], .agg [.lit (.int .i64 33), .lit (.int .i64 64), .lit (.int .i64 13)], .agg [.lit (.int .i64 91), .lit (.int .i64 96), .lit (.int .i64 13)], .agg [.lit (.int .i64 123), .lit (.int .i64 126), .lit (.int .i64 13)], .agg [.lit (.int .i64 127), .lit (.int .i64 159), .lit (.int .i64 9)], .agg [.lit (.int .i64 160), .lit (.int .i64 160), .lit (.int .i64 7)], .agg [.lit (.int .i64 162), .lit (.int .i64 165), .lit (.int .i64 5)], .agg [.lit (.int .i64 173), .lit (.int .i64 173), .lit (.int .i64 9)], .agg [.lit (.int .i64 176), .lit (.int .i64 177), .lit (.int .i64 5)], .agg [.lit (.int .i64 170), .lit (.int .i64 170), .lit (.int .i64 0)], .agg [.lit (.int .i64 181), .lit (.int .i64 181), .lit (.int .i64 0)], .agg [.lit (.int .i64 186), .lit (.int .i64 186), .lit (.int .i64 0)], .agg [.lit (.int .i64 161), .lit (.int .i64 191), .lit (.int .i64 13)], .agg [.lit (.int .i64 215), .lit (.int .i64 215), .lit (.int .i64 13)], .agg [.lit (.int .i64 247), .lit (.int .i64 247), .lit (.int .i64 13)], .agg [.lit (.int .i64 768), .lit (.int .i64 879), .lit (.int .i64 8)], .agg [.lit (.int .i64 1425), .lit (.int .i64 1469), .lit (.int .i64 8)], .agg [.lit (.int .i64 1471), .lit (.int .i64 1471), .lit (.int .i64 8)], .agg [.lit (.int .i64 1473), .lit (.int .i64 1474), .lit (.int .i64 8)], .agg [.lit (.int .i64 1424), .lit (.int .i64 1535), .lit (.int .i64 1)], .agg [.lit (.int .i64 1552), .lit (.int .i64 1562), .lit (.int .i64 8)], .agg [.lit (.int .i64 1611), .lit (.int .i64 1631), .lit (.int .i64 8)], .agg [.lit (.int .i64 1632), .lit (.int .i64 1641), .lit (.int .i64 6)], .agg [.lit (.int .i64 1643), .lit (.int .i64 1644), .lit (.int .i64 6)], .agg [.lit (.int .i64 1776), .lit (.int .i64 1785), .lit (.int .i64 3)], .agg [.lit (.int .i64 1536), .lit (.int .i64 1983), .lit (.int .i64 2)], .agg [.lit (.int .i64 1984), .lit (.int .i64 2143), .lit (.int .i64 1)], .agg [.lit (.int .i64 2144), .lit (.int .i64 2303), .lit (.int .i64 2)], .agg [.lit (.int .i64 8192), .lit (.int .i64 8202), .lit (.int .i64 12)], .agg [.lit (.int .i64 8203), .lit (.int .i64 8205), .lit (.int .i64 9)], .agg [.lit (.int .i64 8206), .lit (.int .i64 8206), .lit (.int .i64 0)], .agg [.lit (.int .i64 8207), .lit (.int .i64 8207), .lit (.int .i64 1)], .agg [.lit (.int .i64 8234), .lit (.int .i64 8234), .lit (.int .i64 14)], .agg [.lit (.int .i64 8235), .lit (.int .i64 8235), .lit (.int .i64 15)], .agg [.lit (.int .i64 8236), .lit (.int .i64 8236), .lit (.int .i64 18)], .agg [.lit (.int .i64 8237), .lit (.int .i64 8237), .lit (.int .i64 16)], .agg [.lit (.int .i64 8238), .lit (.int .i64 8238), .lit (.int .i64 17)], .agg [.lit (.int .i64 8239), .lit (.int .i64 8239), .lit (.int .i64 7)], .agg [.lit (.int .i64 8288), .lit (.int .i64 8293), .lit (.int .i64 9)], .agg [.lit (.int .i64 8294), .lit (.int .i64 8294), .lit (.int .i64 19)], .agg [.lit (.int .i64 8295), .lit (.int .i64 8295), .lit (.int .i64 20)], .agg [.lit (.int .i64 8296), .lit (.int .i64 8296), .lit (.int .i64 21)], .agg [.lit (.int .i64 8297), .lit (.int .i64 8297), .lit (.int .i64 22)], .agg [.lit (.int .i64 8352), .lit (.int .i64 8399), .lit (.int .i64 5)], .agg [.lit (.int .i64 8208), .lit (.int .i64 8287), .lit (.int .i64 13)], .agg [.lit (.int .i64 8592), .lit (.int .i64 11263), .lit (.int .i64 13)], .agg [.lit (.int .i64 12288), .lit (.int .i64 12288), .lit (.int .i64 12)], .agg [.lit (.int .i64 12289), .lit (.int .i64 12292), .lit (.int .i64 13)], .agg [.lit (.int .i64 12296), .lit (.int .i64 12320), .lit (.int .i64 13)], .agg [.lit (.int .i64 64285), .lit (.int .i64 64335), .lit (.int .i64 1)], .agg [.lit (.int .i64 64336), .lit (.int .i64 65023), .lit (.int .i64 2)], .agg [.lit (.int .i64 65024), .lit (.int .i64 65039), .lit (.int .i64 8)], .agg [.lit (.int .i64 65136), .lit (.int .i64 65278), .lit (.int .i64 2)], .agg [.lit (.int .i64 65279), .lit (.int .i64 65279), .lit (.int .i64 9)], .agg [.lit (.int .i64 65529), .lit (.int .i64 65533), .lit (.int .i64 13)]] []
def laid_chancery_bidi_brackets {H : Type} : DataW H := .slice [.agg [.lit (.int .i64 40), .lit (.int .i64 41)], .agg [.lit (.int .i64 91), .lit (.int .i64 93)], .agg [.lit (.int .i64 123), .lit (.int .i64 125)], .agg [.lit (.int .i64 12300), .lit (.int .i64 12301)], .agg [.lit (.int .i64 60), .lit (.int .i64 62)], .agg [.lit (.int .i64 171), .lit (.int .i64 187)], .agg [.lit (.int .i64 8249), .lit (.int .i64 8250)]] []
def laid_chancery_metric_marks {H : Type} : DataW H := .slice [.agg [.lit (.int .i64 173), .lit (.int .i64 173), .lit (.int .i64 0)], .agg [.lit (.int .i64 768), .lit (.int .i64 879), .lit (.int .i64 0)], .agg [.lit (.int .i64 1425), .lit (.int .i64 1469), .lit (.int .i64 0)], .agg [.lit (.int .i64 1471), .lit (.int .i64 1471), .lit (.int .i64 0)], .agg [.lit (.int .i64 1473), .lit (.int .i64 1474), .lit (.int .i64 0)], .agg [.lit (.int .i64 1552), .lit (.int .i64 1562), .lit (.int .i64 0)], .agg [.lit (.int .i64 1611), .lit (.int .i64 1631), .lit (.int .i64 0)], .agg [.lit (.int .i64 8203), .lit (.int .i64 8207), .lit (.int .i64 0)], .agg [.lit (.int .i64 8234), .lit (.int .i64 8238), .lit (.int .i64 0)], .agg [.lit (.int .i64 8288), .lit (.int .i64 8297), .lit (.int .i64 0)], .agg [.lit (.int .i64 65024), .lit (.int .i64 65039), .lit (.int .i64 0)], .agg [.lit (.int .i64 65532), .lit (.int .i64 65532), .lit (.int .i64 0)]] []
def laid_chancery_metric_others {H : Type} : DataW H := .slice [.agg [.lit (.int .i64 9), .lit (.int .i64 10), .lit (.int .i64 0)], .agg [.lit (.int .i64 48), .lit (.int .i64 57), .lit (.int .i64 500)], .agg [.lit (.int .i64 160), .lit (.int .i64 160), .lit (.int .i64 250)], .agg [.lit (.int .i64 192), .lit (.int .i64 222), .lit (.int .i64 660)], .agg [.lit (.int .i64 223), .lit (.int .i64 591), .lit (.int .i64 500)], .agg [.lit (.int .i64 880), .lit (.int .i64 1327), .lit (.int .i64 560)], .agg [.lit (.int .i64 1424), .lit (.int .i64 2303), .lit (.int .i64 520)], .agg [.lit (.int .i64 4352), .lit (.int .i64 4447), .lit (.int .i64 1000)], .agg [.lit (.int .i64 8212), .lit (.int .i64 8212), .lit (.int .i64 1000)], .agg [.lit (.int .i64 8208), .lit (.int .i64 8211), .lit (.int .i64 500)], .agg [.lit (.int .i64 11904), .lit (.int .i64 42191), .lit (.int .i64 1000)], .agg [.lit (.int .i64 44032), .lit (.int .i64 55203), .lit (.int .i64 1000)], .agg [.lit (.int .i64 63744), .lit (.int .i64 64255), .lit (.int .i64 1000)], .agg [.lit (.int .i64 65280), .lit (.int .i64 65376), .lit (.int .i64 1000)], .agg [.lit (.int .i64 131072), .lit (.int .i64 262141), .lit (.int .i64 1000)], .agg [.lit (.int .i64 65), .lit (.int .i64 90), .lit (.int .i64 660)], .agg [.lit (.int .i64 33), .lit (.int .i64 126), .lit (.int .i64 500)]] []

/-- 'chancerylaw3.PatternCharacters': WHATEVER THE INPUT: true; the input reads as it did. -/
def patternCharactersSpec : ChangeSpec := { name := "patternCharacters", fn := fun _ => fun
  | [d] => { results := [.lit (.bool true)], args := [d] }
  | _ => none }
def patternCharactersRow : OpenClaim := { program := "ytihmbddneapooaadoor", sum := "245f3777ff521d7028b937162022ae7b8318ba3d2236802d4329adcb86a2d488", func := "chancery/chancerylaw3.PatternCharacters", spec := "patternCharacters", named := ["chancery/pattern.cases", "chancery/pattern.letters"], apart := false, laid := [("chancery/pattern.cases", laid_chancery_pattern_cases), ("chancery/pattern.letters", laid_chancery_pattern_letters)] }
def PatternCharactersSaid : Prop := patternCharactersRow.holds Tryd.pinned (OpenSpec.ofChange patternCharactersSpec)

/-- ITS FALSE NEIGHBOUR: 'it returns false'. Refute it at one input. -/
def patternCharactersWrong : ChangeSpec := { name := "patternCharacters", fn := fun _ => fun
  | [d] => { results := [.lit (.bool false)], args := [d] }
  | _ => none }
def PatternCharactersWrongFalsely : Prop := patternCharactersRow.holds Tryd.pinned (OpenSpec.ofChange patternCharactersWrong)

/-- 'chancerylaw3.BidiClasses': WHATEVER THE INPUT: true; the input reads as it did. -/
def bidiClassesSpec : ChangeSpec := { name := "bidiClasses", fn := fun _ => fun
  | [d] => { results := [.lit (.bool true)], args := [d] }
  | _ => none }
def bidiClassesRow : OpenClaim := { program := "ytihmbddneapooaadoor", sum := "245f3777ff521d7028b937162022ae7b8318ba3d2236802d4329adcb86a2d488", func := "chancery/chancerylaw3.BidiClasses", spec := "bidiClasses", named := ["chancery/bidi.table", "chancery/bidi.brackets"], apart := false, laid := [("chancery/bidi.table", laid_chancery_bidi_table), ("chancery/bidi.brackets", laid_chancery_bidi_brackets)] }
def BidiClassesSaid : Prop := bidiClassesRow.holds Tryd.pinned (OpenSpec.ofChange bidiClassesSpec)

/-- ITS FALSE NEIGHBOUR: 'it returns false'. Refute it at one input. -/
def bidiClassesWrong : ChangeSpec := { name := "bidiClasses", fn := fun _ => fun
  | [d] => { results := [.lit (.bool false)], args := [d] }
  | _ => none }
def BidiClassesWrongFalsely : Prop := bidiClassesRow.holds Tryd.pinned (OpenSpec.ofChange bidiClassesWrong)

/-- 'chancerylaw3.MetricEms': WHATEVER THE INPUT: true; the input reads as it did. -/
def metricEmsSpec : ChangeSpec := { name := "metricEms", fn := fun _ => fun
  | [d] => { results := [.lit (.bool true)], args := [d] }
  | _ => none }
def metricEmsRow : OpenClaim := { program := "ytihmbddneapooaadoor", sum := "245f3777ff521d7028b937162022ae7b8318ba3d2236802d4329adcb86a2d488", func := "chancery/chancerylaw3.MetricEms", spec := "metricEms", unfollowed := true, recurses := true, named := ["chancery/metric.others", "chancery/metric.marks"], apart := false, laid := [("chancery/metric.marks", laid_chancery_metric_marks), ("chancery/metric.others", laid_chancery_metric_others)] }
def MetricEmsSaid : Prop := metricEmsRow.holds Tryd.pinned (OpenSpec.ofChange metricEmsSpec)

/-- ITS FALSE NEIGHBOUR: 'it returns false'. Refute it at one input. -/
def metricEmsWrong : ChangeSpec := { name := "metricEms", fn := fun _ => fun
  | [d] => { results := [.lit (.bool false)], args := [d] }
  | _ => none }
def MetricEmsWrongFalsely : Prop := metricEmsRow.holds Tryd.pinned (OpenSpec.ofChange metricEmsWrong)

/-- 'chancerylaw3.BreaksPlaces': WHATEVER THE INPUT: true; the input reads as it did. -/
def breaksPlacesSpec : ChangeSpec := { name := "breaksPlaces", fn := fun _ => fun
  | [d] => { results := [.lit (.bool true)], args := [d] }
  | _ => none }
def breaksPlacesRow : OpenClaim := { program := "ytihmbddneapooaadoor", sum := "245f3777ff521d7028b937162022ae7b8318ba3d2236802d4329adcb86a2d488", func := "chancery/chancerylaw3.BreaksPlaces", spec := "breaksPlaces", named := ["chancery/metric.marks"], apart := false, laid := [("chancery/metric.marks", laid_chancery_metric_marks)] }
def BreaksPlacesSaid : Prop := breaksPlacesRow.holds Tryd.pinned (OpenSpec.ofChange breaksPlacesSpec)

/-- ITS FALSE NEIGHBOUR: 'it returns false'. Refute it at one input. -/
def breaksPlacesWrong : ChangeSpec := { name := "breaksPlaces", fn := fun _ => fun
  | [d] => { results := [.lit (.bool false)], args := [d] }
  | _ => none }
def BreaksPlacesWrongFalsely : Prop := breaksPlacesRow.holds Tryd.pinned (OpenSpec.ofChange breaksPlacesWrong)

/- THE SECOND FORM. 'bulk': how many values and letters a reading holds, each counted each time it is reached (what is shared counts as often as it is met; a slice's spare places count too). A statement '..UptoSaid' is the law's where the arguments, and the package variables that the reading takes, are together of bulk at most 1048576: NARROWER than '..Said'. Prove '..Said' where nothing that the law and all that it calls make is longer than what came in: it says more and counts as full. Else prove '..UptoSaid'. A law counts once. -/
mutual
def uptoBulk {H : Type} : DataW H → Nat
  | .lit (.string bytes) => bytes.length + 1
  | .lit _ => 1
  | .nil => 1
  | .ptr d => uptoBulk d + 1
  | .slice elems spare => uptoBulkAll elems + uptoBulkAll spare + 1
  | .agg parts => uptoBulkAll parts + 1
  | .iface _ d => uptoBulk d + 1
  | .map entries => uptoBulkEntries entries + 1
  | .held _ => 1
def uptoBulkAll {H : Type} : List (DataW H) → Nat
  | [] => 0
  | d :: r => uptoBulk d + uptoBulkAll r
def uptoBulkEntries {H : Type} : List (Lit × DataW H) → Nat
  | [] => 0
  | x :: r => uptoBulkEntry x + uptoBulkEntries r
def uptoBulkEntry {H : Type} : Lit × DataW H → Nat
  | (.string bytes, d) => bytes.length + uptoBulk d + 1
  | (_, d) => uptoBulk d + 1
 end
def uptoSmall : (H : Type) → List (DataW H) → Bool := fun _ ds => decide (uptoBulkAll ds ≤ 1048576)
def OpenSpec.upto (s : _root_.Go.ChangeSpec) : _root_.Go.OpenSpec := { _root_.Go.OpenSpec.ofChange s with cond := some uptoSmall }

/-- 'chancerylaw3.PatternCharacters', WHERE WHAT IT READS IS OF BULK AT MOST 1048576: true; the input reads as it did. -/
def patternCharactersUptoRow : OpenClaim := { program := "ytihmbddneapooaadoor", sum := "245f3777ff521d7028b937162022ae7b8318ba3d2236802d4329adcb86a2d488", func := "chancery/chancerylaw3.PatternCharacters", spec := "patternCharacters", named := ["chancery/pattern.cases", "chancery/pattern.letters"], apart := false, laid := [("chancery/pattern.cases", laid_chancery_pattern_cases), ("chancery/pattern.letters", laid_chancery_pattern_letters)], narrowed := true }
def PatternCharactersUptoSaid : Prop := patternCharactersUptoRow.holds Tryd.pinned (OpenSpec.upto patternCharactersSpec)

/-- 'chancerylaw3.BidiClasses', WHERE WHAT IT READS IS OF BULK AT MOST 1048576: true; the input reads as it did. -/
def bidiClassesUptoRow : OpenClaim := { program := "ytihmbddneapooaadoor", sum := "245f3777ff521d7028b937162022ae7b8318ba3d2236802d4329adcb86a2d488", func := "chancery/chancerylaw3.BidiClasses", spec := "bidiClasses", named := ["chancery/bidi.table", "chancery/bidi.brackets"], apart := false, laid := [("chancery/bidi.table", laid_chancery_bidi_table), ("chancery/bidi.brackets", laid_chancery_bidi_brackets)], narrowed := true }
def BidiClassesUptoSaid : Prop := bidiClassesUptoRow.holds Tryd.pinned (OpenSpec.upto bidiClassesSpec)

/-- 'chancerylaw3.MetricEms', WHERE WHAT IT READS IS OF BULK AT MOST 1048576: true; the input reads as it did. -/
def metricEmsUptoRow : OpenClaim := { program := "ytihmbddneapooaadoor", sum := "245f3777ff521d7028b937162022ae7b8318ba3d2236802d4329adcb86a2d488", func := "chancery/chancerylaw3.MetricEms", spec := "metricEms", unfollowed := true, recurses := true, named := ["chancery/metric.others", "chancery/metric.marks"], apart := false, laid := [("chancery/metric.marks", laid_chancery_metric_marks), ("chancery/metric.others", laid_chancery_metric_others)], narrowed := true }
def MetricEmsUptoSaid : Prop := metricEmsUptoRow.holds Tryd.pinned (OpenSpec.upto metricEmsSpec)

/-- 'chancerylaw3.BreaksPlaces', WHERE WHAT IT READS IS OF BULK AT MOST 1048576: true; the input reads as it did. -/
def breaksPlacesUptoRow : OpenClaim := { program := "ytihmbddneapooaadoor", sum := "245f3777ff521d7028b937162022ae7b8318ba3d2236802d4329adcb86a2d488", func := "chancery/chancerylaw3.BreaksPlaces", spec := "breaksPlaces", named := ["chancery/metric.marks"], apart := false, laid := [("chancery/metric.marks", laid_chancery_metric_marks)], narrowed := true }
def BreaksPlacesUptoSaid : Prop := breaksPlacesUptoRow.holds Tryd.pinned (OpenSpec.upto breaksPlacesSpec)

end Rows
end Go.Proofs.YtihmbddneapooaaDoor
