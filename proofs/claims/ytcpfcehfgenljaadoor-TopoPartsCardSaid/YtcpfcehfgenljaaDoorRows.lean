/-
  NARROWER THAN 'FOR EVERY INPUT', by the rows' own cells (each row's printed sentence says how): TopoBack: laid · TopoDists: laid · TopoMakes: laid · TopoParts: laid · TopoMetric: laid · TopoTells: laid · TopoBytes: laid.
  DERIVED. THE GIVEN ROWS OF THIS SEAT. 7 by the template 'for every input the law returns true; each argument reads behind the call as it read before'; 0 by the template 'total and deterministic' (their statements: YtcpfcehfgenljaaDoorTotals.lean).
  GIVEN WITH THE SEED: the statements are not yours to turn. If you find one false, say at which input.
  Laid BY PROGRAM, IN A SANDBOX (cutbox-rows.mjs): the forced cells as the released guide's own fill.sh prints them over the translation 3c622579ddb65189… (all of the seat's roots in one cut). By AI agents, Wed Nov 11 2026. No macro, syntax, notation, axiom, sorry.
-/
import Derived.Test.YtcpfcehfgenljaaDoorChecked
import GoSem.Claim
import GoSem.ClaimJoined
import GoSem.ClaimMapViews
import Derived.JoinedTies
import Derived.KernelRfl
namespace Go.Proofs.YtcpfcehfgenljaaDoor
/- THE CELL 'sum', in the pinned program and in every row, IS THE sha256 OF THE DUMP (.gsa) THAT YtcpfcehfgenljaaDoorProg.lean LOADS. Nothing in Lean hashes anything: it is a label: what it is worth is what the hold of that sum in a sandbox is worth. -/
noncomputable def Tryd.pinned : Pinned := { name := "ytcpfcehfgenljaadoor", sum := "3c622579ddb65189b8a2601b343623c2079a0ea2588ea2e561dd6014e015e1b2", checked := Tryd.checked }
namespace Rows
def none {H : Type} : Left H := { results := [], args := [] }

/- WHAT THE LISTED PACKAGE-LEVEL VARIABLES READ AS WHEN THE CALL BEGINS. Each datum BY PROGRAM (the guide's laid-datum.mjs) off the statement by which the dump's own 'gosem.cut.vars' lays the variable. In a bare row this is a premise. The card (YtcpfcehfgenljaaDoorCards.lean) ties it to the program's text. -/
def laid_math_bits_deBruijn32tab {H : Type} : DataW H := .agg [.lit (.int .u8 0), .lit (.int .u8 1), .lit (.int .u8 28), .lit (.int .u8 2), .lit (.int .u8 29), .lit (.int .u8 14), .lit (.int .u8 24), .lit (.int .u8 3), .lit (.int .u8 30), .lit (.int .u8 22), .lit (.int .u8 20), .lit (.int .u8 15), .lit (.int .u8 25), .lit (.int .u8 17), .lit (.int .u8 4), .lit (.int .u8 8), .lit (.int .u8 31), .lit (.int .u8 27), .lit (.int .u8 13), .lit (.int .u8 23), .lit (.int .u8 21), .lit (.int .u8 19), .lit (.int .u8 16), .lit (.int .u8 7), .lit (.int .u8 26), .lit (.int .u8 12), .lit (.int .u8 18), .lit (.int .u8 6), .lit (.int .u8 11), .lit (.int .u8 5), .lit (.int .u8 10), .lit (.int .u8 9)]

/-- 'mainsheetlaw06.TopoBack': WHATEVER THE INPUT: true; the input reads as it did. -/
def topoBackSpec : ChangeSpec := { name := "topoBack", fn := fun _ => fun
  | [d1, d2] => { results := [.lit (.bool true)], args := [d1, d2] }
  | _ => none }
def topoBackRow : OpenClaim := { program := "ytcpfcehfgenljaadoor", sum := "3c622579ddb65189b8a2601b343623c2079a0ea2588ea2e561dd6014e015e1b2", func := "mainsheet/mainsheetlaw06.TopoBack", spec := "topoBack", unfollowed := true, recurses := true, named := ["math/bits.deBruijn32tab"], apart := false, laid := [("math/bits.deBruijn32tab", laid_math_bits_deBruijn32tab)] }
def TopoBackSaid : Prop := topoBackRow.holds Tryd.pinned (OpenSpec.ofChange topoBackSpec)

/-- ITS FALSE NEIGHBOUR: 'it returns false'. Refute it at one input. -/
def topoBackWrong : ChangeSpec := { name := "topoBack", fn := fun _ => fun
  | [d1, d2] => { results := [.lit (.bool false)], args := [d1, d2] }
  | _ => none }
def TopoBackWrongFalsely : Prop := topoBackRow.holds Tryd.pinned (OpenSpec.ofChange topoBackWrong)

/-- 'mainsheetlaw06.TopoDists': WHATEVER THE INPUT: true; the input reads as it did. -/
def topoDistsSpec : ChangeSpec := { name := "topoDists", fn := fun _ => fun
  | [d1, d2, d3] => { results := [.lit (.bool true)], args := [d1, d2, d3] }
  | _ => none }
def topoDistsRow : OpenClaim := { program := "ytcpfcehfgenljaadoor", sum := "3c622579ddb65189b8a2601b343623c2079a0ea2588ea2e561dd6014e015e1b2", func := "mainsheet/mainsheetlaw06.TopoDists", spec := "topoDists", unfollowed := true, recurses := true, named := ["math/bits.deBruijn32tab"], apart := false, laid := [("math/bits.deBruijn32tab", laid_math_bits_deBruijn32tab)] }
def TopoDistsSaid : Prop := topoDistsRow.holds Tryd.pinned (OpenSpec.ofChange topoDistsSpec)

/-- ITS FALSE NEIGHBOUR: 'it returns false'. Refute it at one input. -/
def topoDistsWrong : ChangeSpec := { name := "topoDists", fn := fun _ => fun
  | [d1, d2, d3] => { results := [.lit (.bool false)], args := [d1, d2, d3] }
  | _ => none }
def TopoDistsWrongFalsely : Prop := topoDistsRow.holds Tryd.pinned (OpenSpec.ofChange topoDistsWrong)

/-- 'mainsheetlaw06.TopoMakes': WHATEVER THE INPUT: true; the input reads as it did. -/
def topoMakesSpec : ChangeSpec := { name := "topoMakes", fn := fun _ => fun
  | [d1, d2] => { results := [.lit (.bool true)], args := [d1, d2] }
  | _ => none }
def topoMakesRow : OpenClaim := { program := "ytcpfcehfgenljaadoor", sum := "3c622579ddb65189b8a2601b343623c2079a0ea2588ea2e561dd6014e015e1b2", func := "mainsheet/mainsheetlaw06.TopoMakes", spec := "topoMakes", unfollowed := true, recurses := true, named := ["math/bits.deBruijn32tab"], apart := false, laid := [("math/bits.deBruijn32tab", laid_math_bits_deBruijn32tab)] }
def TopoMakesSaid : Prop := topoMakesRow.holds Tryd.pinned (OpenSpec.ofChange topoMakesSpec)

/-- ITS FALSE NEIGHBOUR: 'it returns false'. Refute it at one input. -/
def topoMakesWrong : ChangeSpec := { name := "topoMakes", fn := fun _ => fun
  | [d1, d2] => { results := [.lit (.bool false)], args := [d1, d2] }
  | _ => none }
def TopoMakesWrongFalsely : Prop := topoMakesRow.holds Tryd.pinned (OpenSpec.ofChange topoMakesWrong)

/-- 'mainsheetlaw06.TopoParts': WHATEVER THE INPUT: true; the input reads as it did. -/
def topoPartsSpec : ChangeSpec := { name := "topoParts", fn := fun _ => fun
  | [d1, d2, d3] => { results := [.lit (.bool true)], args := [d1, d2, d3] }
  | _ => none }
def topoPartsRow : OpenClaim := { program := "ytcpfcehfgenljaadoor", sum := "3c622579ddb65189b8a2601b343623c2079a0ea2588ea2e561dd6014e015e1b2", func := "mainsheet/mainsheetlaw06.TopoParts", spec := "topoParts", unfollowed := true, recurses := true, named := ["math/bits.deBruijn32tab"], apart := false, laid := [("math/bits.deBruijn32tab", laid_math_bits_deBruijn32tab)] }
def TopoPartsSaid : Prop := topoPartsRow.holds Tryd.pinned (OpenSpec.ofChange topoPartsSpec)

/-- ITS FALSE NEIGHBOUR: 'it returns false'. Refute it at one input. -/
def topoPartsWrong : ChangeSpec := { name := "topoParts", fn := fun _ => fun
  | [d1, d2, d3] => { results := [.lit (.bool false)], args := [d1, d2, d3] }
  | _ => none }
def TopoPartsWrongFalsely : Prop := topoPartsRow.holds Tryd.pinned (OpenSpec.ofChange topoPartsWrong)

/-- 'mainsheetlaw06.TopoMetric': WHATEVER THE INPUT: true; the input reads as it did. -/
def topoMetricSpec : ChangeSpec := { name := "topoMetric", fn := fun _ => fun
  | [d] => { results := [.lit (.bool true)], args := [d] }
  | _ => none }
def topoMetricRow : OpenClaim := { program := "ytcpfcehfgenljaadoor", sum := "3c622579ddb65189b8a2601b343623c2079a0ea2588ea2e561dd6014e015e1b2", func := "mainsheet/mainsheetlaw06.TopoMetric", spec := "topoMetric", unfollowed := true, recurses := true, named := ["math/bits.deBruijn32tab"], apart := false, laid := [("math/bits.deBruijn32tab", laid_math_bits_deBruijn32tab)] }
def TopoMetricSaid : Prop := topoMetricRow.holds Tryd.pinned (OpenSpec.ofChange topoMetricSpec)

/-- ITS FALSE NEIGHBOUR: 'it returns false'. Refute it at one input. -/
def topoMetricWrong : ChangeSpec := { name := "topoMetric", fn := fun _ => fun
  | [d] => { results := [.lit (.bool false)], args := [d] }
  | _ => none }
def TopoMetricWrongFalsely : Prop := topoMetricRow.holds Tryd.pinned (OpenSpec.ofChange topoMetricWrong)

/-- 'mainsheetlaw06.TopoTells': WHATEVER THE INPUT: true; the input reads as it did. -/
def topoTellsSpec : ChangeSpec := { name := "topoTells", fn := fun _ => fun
  | [d1, d2] => { results := [.lit (.bool true)], args := [d1, d2] }
  | _ => none }
def topoTellsRow : OpenClaim := { program := "ytcpfcehfgenljaadoor", sum := "3c622579ddb65189b8a2601b343623c2079a0ea2588ea2e561dd6014e015e1b2", func := "mainsheet/mainsheetlaw06.TopoTells", spec := "topoTells", unfollowed := true, recurses := true, named := ["math/bits.deBruijn32tab"], apart := false, laid := [("math/bits.deBruijn32tab", laid_math_bits_deBruijn32tab)] }
def TopoTellsSaid : Prop := topoTellsRow.holds Tryd.pinned (OpenSpec.ofChange topoTellsSpec)

/-- ITS FALSE NEIGHBOUR: 'it returns false'. Refute it at one input. -/
def topoTellsWrong : ChangeSpec := { name := "topoTells", fn := fun _ => fun
  | [d1, d2] => { results := [.lit (.bool false)], args := [d1, d2] }
  | _ => none }
def TopoTellsWrongFalsely : Prop := topoTellsRow.holds Tryd.pinned (OpenSpec.ofChange topoTellsWrong)

/-- 'mainsheetlaw06.TopoBytes': WHATEVER THE INPUT: true; the input reads as it did. -/
def topoBytesSpec : ChangeSpec := { name := "topoBytes", fn := fun _ => fun
  | [d1, d2] => { results := [.lit (.bool true)], args := [d1, d2] }
  | _ => none }
def topoBytesRow : OpenClaim := { program := "ytcpfcehfgenljaadoor", sum := "3c622579ddb65189b8a2601b343623c2079a0ea2588ea2e561dd6014e015e1b2", func := "mainsheet/mainsheetlaw06.TopoBytes", spec := "topoBytes", unfollowed := true, recurses := true, named := ["math/bits.deBruijn32tab"], apart := false, laid := [("math/bits.deBruijn32tab", laid_math_bits_deBruijn32tab)] }
def TopoBytesSaid : Prop := topoBytesRow.holds Tryd.pinned (OpenSpec.ofChange topoBytesSpec)

/-- ITS FALSE NEIGHBOUR: 'it returns false'. Refute it at one input. -/
def topoBytesWrong : ChangeSpec := { name := "topoBytes", fn := fun _ => fun
  | [d1, d2] => { results := [.lit (.bool false)], args := [d1, d2] }
  | _ => none }
def TopoBytesWrongFalsely : Prop := topoBytesRow.holds Tryd.pinned (OpenSpec.ofChange topoBytesWrong)

/- THE SECOND FORM. 'bulk': how many values and letters a reading holds, each counted each time it is reached (what is shared counts as often as it is met; a slice's spare places count too). A statement '..UptoSaid' is the law's where the arguments, and the package variables that the reading takes, are together of bulk at most 1048576: NARROWER than '..Said'. Prove '..Said' where nothing that the law and all that it calls make is longer than what came in: it says more and counts as full. Else prove '..UptoSaid'. A law counts once. -/
mutual
def uptoBulk {H : Type} : DataW H → Nat
  | .lit (.string bytes) => bytes.length + 1
  | .lit _ => 1
  | .nil => 1
  | .ptr d => uptoBulk d + 1
  | .slice elems spare => uptoBulkAll elems + uptoBulkAll spare + 1
  | .agg parts => uptoBulkAll parts + 1
  | .iface _ d => uptoBulk d + 1
  | .map entries => uptoBulkEntries entries + 1
  | .held _ => 1
def uptoBulkAll {H : Type} : List (DataW H) → Nat
  | [] => 0
  | d :: r => uptoBulk d + uptoBulkAll r
def uptoBulkEntries {H : Type} : List (Lit × DataW H) → Nat
  | [] => 0
  | x :: r => uptoBulkEntry x + uptoBulkEntries r
def uptoBulkEntry {H : Type} : Lit × DataW H → Nat
  | (.string bytes, d) => bytes.length + uptoBulk d + 1
  | (_, d) => uptoBulk d + 1
 end
def uptoSmall : (H : Type) → List (DataW H) → Bool := fun _ ds => decide (uptoBulkAll ds ≤ 1048576)
def OpenSpec.upto (s : _root_.Go.ChangeSpec) : _root_.Go.OpenSpec := { _root_.Go.OpenSpec.ofChange s with cond := some uptoSmall }

/-- 'mainsheetlaw06.TopoBack', WHERE WHAT IT READS IS OF BULK AT MOST 1048576: true; the input reads as it did. -/
def topoBackUptoRow : OpenClaim := { program := "ytcpfcehfgenljaadoor", sum := "3c622579ddb65189b8a2601b343623c2079a0ea2588ea2e561dd6014e015e1b2", func := "mainsheet/mainsheetlaw06.TopoBack", spec := "topoBack", unfollowed := true, recurses := true, named := ["math/bits.deBruijn32tab"], apart := false, laid := [("math/bits.deBruijn32tab", laid_math_bits_deBruijn32tab)], narrowed := true }
def TopoBackUptoSaid : Prop := topoBackUptoRow.holds Tryd.pinned (OpenSpec.upto topoBackSpec)

/-- 'mainsheetlaw06.TopoDists', WHERE WHAT IT READS IS OF BULK AT MOST 1048576: true; the input reads as it did. -/
def topoDistsUptoRow : OpenClaim := { program := "ytcpfcehfgenljaadoor", sum := "3c622579ddb65189b8a2601b343623c2079a0ea2588ea2e561dd6014e015e1b2", func := "mainsheet/mainsheetlaw06.TopoDists", spec := "topoDists", unfollowed := true, recurses := true, named := ["math/bits.deBruijn32tab"], apart := false, laid := [("math/bits.deBruijn32tab", laid_math_bits_deBruijn32tab)], narrowed := true }
def TopoDistsUptoSaid : Prop := topoDistsUptoRow.holds Tryd.pinned (OpenSpec.upto topoDistsSpec)

/-- 'mainsheetlaw06.TopoMakes', WHERE WHAT IT READS IS OF BULK AT MOST 1048576: true; the input reads as it did. -/
def topoMakesUptoRow : OpenClaim := { program := "ytcpfcehfgenljaadoor", sum := "3c622579ddb65189b8a2601b343623c2079a0ea2588ea2e561dd6014e015e1b2", func := "mainsheet/mainsheetlaw06.TopoMakes", spec := "topoMakes", unfollowed := true, recurses := true, named := ["math/bits.deBruijn32tab"], apart := false, laid := [("math/bits.deBruijn32tab", laid_math_bits_deBruijn32tab)], narrowed := true }
def TopoMakesUptoSaid : Prop := topoMakesUptoRow.holds Tryd.pinned (OpenSpec.upto topoMakesSpec)

/-- 'mainsheetlaw06.TopoParts', WHERE WHAT IT READS IS OF BULK AT MOST 1048576: true; the input reads as it did. -/
def topoPartsUptoRow : OpenClaim := { program := "ytcpfcehfgenljaadoor", sum := "3c622579ddb65189b8a2601b343623c2079a0ea2588ea2e561dd6014e015e1b2", func := "mainsheet/mainsheetlaw06.TopoParts", spec := "topoParts", unfollowed := true, recurses := true, named := ["math/bits.deBruijn32tab"], apart := false, laid := [("math/bits.deBruijn32tab", laid_math_bits_deBruijn32tab)], narrowed := true }
def TopoPartsUptoSaid : Prop := topoPartsUptoRow.holds Tryd.pinned (OpenSpec.upto topoPartsSpec)

/-- 'mainsheetlaw06.TopoMetric', WHERE WHAT IT READS IS OF BULK AT MOST 1048576: true; the input reads as it did. -/
def topoMetricUptoRow : OpenClaim := { program := "ytcpfcehfgenljaadoor", sum := "3c622579ddb65189b8a2601b343623c2079a0ea2588ea2e561dd6014e015e1b2", func := "mainsheet/mainsheetlaw06.TopoMetric", spec := "topoMetric", unfollowed := true, recurses := true, named := ["math/bits.deBruijn32tab"], apart := false, laid := [("math/bits.deBruijn32tab", laid_math_bits_deBruijn32tab)], narrowed := true }
def TopoMetricUptoSaid : Prop := topoMetricUptoRow.holds Tryd.pinned (OpenSpec.upto topoMetricSpec)

/-- 'mainsheetlaw06.TopoTells', WHERE WHAT IT READS IS OF BULK AT MOST 1048576: true; the input reads as it did. -/
def topoTellsUptoRow : OpenClaim := { program := "ytcpfcehfgenljaadoor", sum := "3c622579ddb65189b8a2601b343623c2079a0ea2588ea2e561dd6014e015e1b2", func := "mainsheet/mainsheetlaw06.TopoTells", spec := "topoTells", unfollowed := true, recurses := true, named := ["math/bits.deBruijn32tab"], apart := false, laid := [("math/bits.deBruijn32tab", laid_math_bits_deBruijn32tab)], narrowed := true }
def TopoTellsUptoSaid : Prop := topoTellsUptoRow.holds Tryd.pinned (OpenSpec.upto topoTellsSpec)

/-- 'mainsheetlaw06.TopoBytes', WHERE WHAT IT READS IS OF BULK AT MOST 1048576: true; the input reads as it did. -/
def topoBytesUptoRow : OpenClaim := { program := "ytcpfcehfgenljaadoor", sum := "3c622579ddb65189b8a2601b343623c2079a0ea2588ea2e561dd6014e015e1b2", func := "mainsheet/mainsheetlaw06.TopoBytes", spec := "topoBytes", unfollowed := true, recurses := true, named := ["math/bits.deBruijn32tab"], apart := false, laid := [("math/bits.deBruijn32tab", laid_math_bits_deBruijn32tab)], narrowed := true }
def TopoBytesUptoSaid : Prop := topoBytesUptoRow.holds Tryd.pinned (OpenSpec.upto topoBytesSpec)

end Rows
end Go.Proofs.YtcpfcehfgenljaaDoor
