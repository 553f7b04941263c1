/-
  DERIVED. GIVEN WITH THE SEED: THE CARDS: each row of YtkhbffjfclepfaaDoorRows.lean that lists a variable, with what it lists TIED to the program's text (the seventh form; the later family's looks); each row that meets fmt, with fmt's text TOLD by the authors' own Lean function (tested against real Go, not proved from fmt's source: count such statements apart). THE CARD IS WHAT COUNTS. Prove the row's statement (the work); the ties are given (YtkhbffjfclepfaaDoorTie.lean); close each card by the builder's one call (the guide's Derived/Test/ToyasCard.lean, 'card_holds'). Laid BY PROGRAM, IN A SANDBOX (cutbox-door.mjs). By AI agents, Wed Nov 11 2026. No macro, syntax, notation, axiom, sorry.
-/
import Derived.Test.YtkhbffjfclepfaaDoorRows
import GoSem.ClaimSeven
namespace Go.Proofs.YtkhbffjfclepfaaDoor
namespace Rows

/-- THE TIED CARD OF 'mainsheetlaw08.PoolParts'. -/
def poolPartsCard : Claim7 := { stood := { row := poolPartsRow, standIns := [], harness := (true, "b0a623852c93321e025831e5d6589d23aafa53196e09d8e580bf0e300d2dcf66"), looks := false }, kinds := [], alts := [], laidByText := true, laidKinds := [.data], laidTests := true, laidLooks := .later }
def PoolPartsCardSaid : Prop := Claim7.holds Tryd.pinned (.plain (OpenSpec.ofChange poolPartsSpec)) poolPartsCard

/-- THE SECOND FORM's CARD OF 'mainsheetlaw08.PoolParts'. -/
def poolPartsUptoCard : Claim7 := { stood := { row := poolPartsUptoRow, standIns := [], harness := (true, "b0a623852c93321e025831e5d6589d23aafa53196e09d8e580bf0e300d2dcf66"), looks := false }, kinds := [], alts := [], laidByText := true, laidKinds := [.data], laidTests := true, laidLooks := .later }
def PoolPartsUptoCardSaid : Prop := Claim7.holds Tryd.pinned (.plain (OpenSpec.upto poolPartsSpec)) poolPartsUptoCard
end Rows
end Go.Proofs.YtkhbffjfclepfaaDoor
