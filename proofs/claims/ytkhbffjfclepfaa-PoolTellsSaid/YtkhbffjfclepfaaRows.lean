/-
  No cell of these rows narrows 'for every input' (looked for: loops, veiled, ifaces, maps, wideKeys, modest, calm, conditions, laid).
  DERIVED. THE GIVEN ROWS OF THIS SEAT. 6 by the template 'for every input the law returns true; each argument reads behind the call as it read before'; 0 by the template 'total and deterministic' (their statements: YtkhbffjfclepfaaTotals.lean).
  GIVEN WITH THE SEED: the statements are not yours to turn. If you find one false, say at which input.
  Laid BY PROGRAM, IN A SANDBOX (cutbox-rows.mjs): the forced cells as the released guide's own fill.sh prints them over the translation 0fa3982b10e0c717… (all of the seat's roots in one cut). By AI agents, Wed Nov 11 2026. No macro, syntax, notation, axiom, sorry.
-/
import Derived.Test.YtkhbffjfclepfaaChecked
import GoSem.Claim
import GoSem.ClaimJoined
import GoSem.ClaimMapViews
import Derived.JoinedTies
import Derived.KernelRfl
namespace Go.Proofs.Ytkhbffjfclepfaa
/- THE CELL 'sum', in the pinned program and in every row, IS THE sha256 OF THE DUMP (.gsa) THAT YtkhbffjfclepfaaProg.lean LOADS. Nothing in Lean hashes anything: it is a label: what it is worth is what the hold of that sum in a sandbox is worth. -/
noncomputable def Try.pinned : Pinned := { name := "ytkhbffjfclepfaa", sum := "0fa3982b10e0c717fd7cf56c023c931cd96f0c326410dd84724a1681d803bdbd", checked := Try.checked }
namespace Rows
def none {H : Type} : Left H := { results := [], args := [] }

/-- 'mainsheetlaw08.PoolNews': WHATEVER THE INPUT: true; the input reads as it did. -/
def poolNewsSpec : ChangeSpec := { name := "poolNews", fn := fun _ => fun
  | [d] => { results := [.lit (.bool true)], args := [d] }
  | _ => none }
def poolNewsRow : OpenClaim := { program := "ytkhbffjfclepfaa", sum := "0fa3982b10e0c717fd7cf56c023c931cd96f0c326410dd84724a1681d803bdbd", func := "mainsheet/mainsheetlaw08.PoolNews", spec := "poolNews", unfollowed := true, recurses := true, apart := false }
def PoolNewsSaid : Prop := poolNewsRow.holds Try.pinned (OpenSpec.ofChange poolNewsSpec)

/-- ITS FALSE NEIGHBOUR: 'it returns false'. Refute it at one input. -/
def poolNewsWrong : ChangeSpec := { name := "poolNews", fn := fun _ => fun
  | [d] => { results := [.lit (.bool false)], args := [d] }
  | _ => none }
def PoolNewsWrongFalsely : Prop := poolNewsRow.holds Try.pinned (OpenSpec.ofChange poolNewsWrong)

/-- 'mainsheetlaw08.PoolDoes': WHATEVER THE INPUT: true; the input reads as it did. -/
def poolDoesSpec : ChangeSpec := { name := "poolDoes", fn := fun _ => fun
  | [d1, d2] => { results := [.lit (.bool true)], args := [d1, d2] }
  | _ => none }
def poolDoesRow : OpenClaim := { program := "ytkhbffjfclepfaa", sum := "0fa3982b10e0c717fd7cf56c023c931cd96f0c326410dd84724a1681d803bdbd", func := "mainsheet/mainsheetlaw08.PoolDoes", spec := "poolDoes", unfollowed := true, recurses := true, apart := false }
def PoolDoesSaid : Prop := poolDoesRow.holds Try.pinned (OpenSpec.ofChange poolDoesSpec)

/-- ITS FALSE NEIGHBOUR: 'it returns false'. Refute it at one input. -/
def poolDoesWrong : ChangeSpec := { name := "poolDoes", fn := fun _ => fun
  | [d1, d2] => { results := [.lit (.bool false)], args := [d1, d2] }
  | _ => none }
def PoolDoesWrongFalsely : Prop := poolDoesRow.holds Try.pinned (OpenSpec.ofChange poolDoesWrong)

/-- 'mainsheetlaw08.PoolTells': WHATEVER THE INPUT: true; the input reads as it did. -/
def poolTellsSpec : ChangeSpec := { name := "poolTells", fn := fun _ => fun
  | [d1, d2] => { results := [.lit (.bool true)], args := [d1, d2] }
  | _ => none }
def poolTellsRow : OpenClaim := { program := "ytkhbffjfclepfaa", sum := "0fa3982b10e0c717fd7cf56c023c931cd96f0c326410dd84724a1681d803bdbd", func := "mainsheet/mainsheetlaw08.PoolTells", spec := "poolTells", unfollowed := true, recurses := true, apart := false }
def PoolTellsSaid : Prop := poolTellsRow.holds Try.pinned (OpenSpec.ofChange poolTellsSpec)

/-- ITS FALSE NEIGHBOUR: 'it returns false'. Refute it at one input. -/
def poolTellsWrong : ChangeSpec := { name := "poolTells", fn := fun _ => fun
  | [d1, d2] => { results := [.lit (.bool false)], args := [d1, d2] }
  | _ => none }
def PoolTellsWrongFalsely : Prop := poolTellsRow.holds Try.pinned (OpenSpec.ofChange poolTellsWrong)

/-- 'mainsheetlaw08.PoolBytes': WHATEVER THE INPUT: true; the input reads as it did. -/
def poolBytesSpec : ChangeSpec := { name := "poolBytes", fn := fun _ => fun
  | [d1, d2] => { results := [.lit (.bool true)], args := [d1, d2] }
  | _ => none }
def poolBytesRow : OpenClaim := { program := "ytkhbffjfclepfaa", sum := "0fa3982b10e0c717fd7cf56c023c931cd96f0c326410dd84724a1681d803bdbd", func := "mainsheet/mainsheetlaw08.PoolBytes", spec := "poolBytes", unfollowed := true, recurses := true, apart := false }
def PoolBytesSaid : Prop := poolBytesRow.holds Try.pinned (OpenSpec.ofChange poolBytesSpec)

/-- ITS FALSE NEIGHBOUR: 'it returns false'. Refute it at one input. -/
def poolBytesWrong : ChangeSpec := { name := "poolBytes", fn := fun _ => fun
  | [d1, d2] => { results := [.lit (.bool false)], args := [d1, d2] }
  | _ => none }
def PoolBytesWrongFalsely : Prop := poolBytesRow.holds Try.pinned (OpenSpec.ofChange poolBytesWrong)

/-- 'mainsheetlaw08.PoolRead': WHATEVER THE INPUT: true; the input reads as it did. -/
def poolReadSpec : ChangeSpec := { name := "poolRead", fn := fun _ => fun
  | [d1, d2] => { results := [.lit (.bool true)], args := [d1, d2] }
  | _ => none }
def poolReadRow : OpenClaim := { program := "ytkhbffjfclepfaa", sum := "0fa3982b10e0c717fd7cf56c023c931cd96f0c326410dd84724a1681d803bdbd", func := "mainsheet/mainsheetlaw08.PoolRead", spec := "poolRead", unfollowed := true, recurses := true, apart := false }
def PoolReadSaid : Prop := poolReadRow.holds Try.pinned (OpenSpec.ofChange poolReadSpec)

/-- ITS FALSE NEIGHBOUR: 'it returns false'. Refute it at one input. -/
def poolReadWrong : ChangeSpec := { name := "poolRead", fn := fun _ => fun
  | [d1, d2] => { results := [.lit (.bool false)], args := [d1, d2] }
  | _ => none }
def PoolReadWrongFalsely : Prop := poolReadRow.holds Try.pinned (OpenSpec.ofChange poolReadWrong)

/-- 'mainsheetlaw08.PoolBack': WHATEVER THE INPUT: true; the input reads as it did. -/
def poolBackSpec : ChangeSpec := { name := "poolBack", fn := fun _ => fun
  | [d1, d2] => { results := [.lit (.bool true)], args := [d1, d2] }
  | _ => none }
def poolBackRow : OpenClaim := { program := "ytkhbffjfclepfaa", sum := "0fa3982b10e0c717fd7cf56c023c931cd96f0c326410dd84724a1681d803bdbd", func := "mainsheet/mainsheetlaw08.PoolBack", spec := "poolBack", unfollowed := true, recurses := true, apart := false }
def PoolBackSaid : Prop := poolBackRow.holds Try.pinned (OpenSpec.ofChange poolBackSpec)

/-- ITS FALSE NEIGHBOUR: 'it returns false'. Refute it at one input. -/
def poolBackWrong : ChangeSpec := { name := "poolBack", fn := fun _ => fun
  | [d1, d2] => { results := [.lit (.bool false)], args := [d1, d2] }
  | _ => none }
def PoolBackWrongFalsely : Prop := poolBackRow.holds Try.pinned (OpenSpec.ofChange poolBackWrong)

/- THE SECOND FORM. 'bulk': how many values and letters a reading holds, each counted each time it is reached (what is shared counts as often as it is met; a slice's spare places count too). A statement '..UptoSaid' is the law's where the arguments, and the package variables that the reading takes, are together of bulk at most 1048576: NARROWER than '..Said'. Prove '..Said' where nothing that the law and all that it calls make is longer than what came in: it says more and counts as full. Else prove '..UptoSaid'. A law counts once. -/
mutual
def uptoBulk {H : Type} : DataW H → Nat
  | .lit (.string bytes) => bytes.length + 1
  | .lit _ => 1
  | .nil => 1
  | .ptr d => uptoBulk d + 1
  | .slice elems spare => uptoBulkAll elems + uptoBulkAll spare + 1
  | .agg parts => uptoBulkAll parts + 1
  | .iface _ d => uptoBulk d + 1
  | .map entries => uptoBulkEntries entries + 1
  | .held _ => 1
def uptoBulkAll {H : Type} : List (DataW H) → Nat
  | [] => 0
  | d :: r => uptoBulk d + uptoBulkAll r
def uptoBulkEntries {H : Type} : List (Lit × DataW H) → Nat
  | [] => 0
  | x :: r => uptoBulkEntry x + uptoBulkEntries r
def uptoBulkEntry {H : Type} : Lit × DataW H → Nat
  | (.string bytes, d) => bytes.length + uptoBulk d + 1
  | (_, d) => uptoBulk d + 1
 end
def uptoSmall : (H : Type) → List (DataW H) → Bool := fun _ ds => decide (uptoBulkAll ds ≤ 1048576)
def OpenSpec.upto (s : _root_.Go.ChangeSpec) : _root_.Go.OpenSpec := { _root_.Go.OpenSpec.ofChange s with cond := some uptoSmall }

/-- 'mainsheetlaw08.PoolNews', WHERE WHAT IT READS IS OF BULK AT MOST 1048576: true; the input reads as it did. -/
def poolNewsUptoRow : OpenClaim := { program := "ytkhbffjfclepfaa", sum := "0fa3982b10e0c717fd7cf56c023c931cd96f0c326410dd84724a1681d803bdbd", func := "mainsheet/mainsheetlaw08.PoolNews", spec := "poolNews", unfollowed := true, recurses := true, apart := false, narrowed := true }
def PoolNewsUptoSaid : Prop := poolNewsUptoRow.holds Try.pinned (OpenSpec.upto poolNewsSpec)

/-- 'mainsheetlaw08.PoolDoes', WHERE WHAT IT READS IS OF BULK AT MOST 1048576: true; the input reads as it did. -/
def poolDoesUptoRow : OpenClaim := { program := "ytkhbffjfclepfaa", sum := "0fa3982b10e0c717fd7cf56c023c931cd96f0c326410dd84724a1681d803bdbd", func := "mainsheet/mainsheetlaw08.PoolDoes", spec := "poolDoes", unfollowed := true, recurses := true, apart := false, narrowed := true }
def PoolDoesUptoSaid : Prop := poolDoesUptoRow.holds Try.pinned (OpenSpec.upto poolDoesSpec)

/-- 'mainsheetlaw08.PoolTells', WHERE WHAT IT READS IS OF BULK AT MOST 1048576: true; the input reads as it did. -/
def poolTellsUptoRow : OpenClaim := { program := "ytkhbffjfclepfaa", sum := "0fa3982b10e0c717fd7cf56c023c931cd96f0c326410dd84724a1681d803bdbd", func := "mainsheet/mainsheetlaw08.PoolTells", spec := "poolTells", unfollowed := true, recurses := true, apart := false, narrowed := true }
def PoolTellsUptoSaid : Prop := poolTellsUptoRow.holds Try.pinned (OpenSpec.upto poolTellsSpec)

/-- 'mainsheetlaw08.PoolBytes', WHERE WHAT IT READS IS OF BULK AT MOST 1048576: true; the input reads as it did. -/
def poolBytesUptoRow : OpenClaim := { program := "ytkhbffjfclepfaa", sum := "0fa3982b10e0c717fd7cf56c023c931cd96f0c326410dd84724a1681d803bdbd", func := "mainsheet/mainsheetlaw08.PoolBytes", spec := "poolBytes", unfollowed := true, recurses := true, apart := false, narrowed := true }
def PoolBytesUptoSaid : Prop := poolBytesUptoRow.holds Try.pinned (OpenSpec.upto poolBytesSpec)

/-- 'mainsheetlaw08.PoolRead', WHERE WHAT IT READS IS OF BULK AT MOST 1048576: true; the input reads as it did. -/
def poolReadUptoRow : OpenClaim := { program := "ytkhbffjfclepfaa", sum := "0fa3982b10e0c717fd7cf56c023c931cd96f0c326410dd84724a1681d803bdbd", func := "mainsheet/mainsheetlaw08.PoolRead", spec := "poolRead", unfollowed := true, recurses := true, apart := false, narrowed := true }
def PoolReadUptoSaid : Prop := poolReadUptoRow.holds Try.pinned (OpenSpec.upto poolReadSpec)

/-- 'mainsheetlaw08.PoolBack', WHERE WHAT IT READS IS OF BULK AT MOST 1048576: true; the input reads as it did. -/
def poolBackUptoRow : OpenClaim := { program := "ytkhbffjfclepfaa", sum := "0fa3982b10e0c717fd7cf56c023c931cd96f0c326410dd84724a1681d803bdbd", func := "mainsheet/mainsheetlaw08.PoolBack", spec := "poolBack", unfollowed := true, recurses := true, apart := false, narrowed := true }
def PoolBackUptoSaid : Prop := poolBackUptoRow.holds Try.pinned (OpenSpec.upto poolBackSpec)

end Rows
end Go.Proofs.Ytkhbffjfclepfaa
