/-
  DERIVED. GIVEN WITH THE SEED: THE CARDS: each row of YtfkpdmnabhejpaaDoorRows.lean that lists a variable, with what it lists TIED to the program's text (the seventh form; the later family's looks); each row that meets fmt, with fmt's text TOLD by the authors' own Lean function (tested against real Go, not proved from fmt's source: count such statements apart). THE CARD IS WHAT COUNTS. Prove the row's statement (the work); the ties are given (YtfkpdmnabhejpaaDoorTie.lean); close each card by the builder's one call (the guide's Derived/Test/ToyasCard.lean, 'card_holds'). Laid BY PROGRAM, IN A SANDBOX (cutbox-door.mjs). By AI agents, Wed Nov 11 2026. No macro, syntax, notation, axiom, sorry.
-/
import Derived.Test.YtfkpdmnabhejpaaDoorRows
import GoSem.ClaimSeven
namespace Go.Proofs.YtfkpdmnabhejpaaDoor
namespace Rows

/-- THE TIED CARD OF 'skymosaiclaw12.ProjLines'. -/
def projLinesCard : Claim7 := { stood := { row := projLinesRow, standIns := [], harness := (true, "0eb014b8e3a1ccabc08599932fcac89d4a505abdc5ad632be6532ba4a643ddf9"), looks := false }, kinds := [], alts := [], laidByText := true, laidKinds := [.data, .data, .data], laidTests := true, laidLooks := .later }
def ProjLinesCardSaid : Prop := Claim7.holds Tryd.pinned (.plain (OpenSpec.ofChange projLinesSpec)) projLinesCard

/-- THE SECOND FORM's CARD OF 'skymosaiclaw12.ProjLines'. -/
def projLinesUptoCard : Claim7 := { stood := { row := projLinesUptoRow, standIns := [], harness := (true, "0eb014b8e3a1ccabc08599932fcac89d4a505abdc5ad632be6532ba4a643ddf9"), looks := false }, kinds := [], alts := [], laidByText := true, laidKinds := [.data, .data, .data], laidTests := true, laidLooks := .later }
def ProjLinesUptoCardSaid : Prop := Claim7.holds Tryd.pinned (.plain (OpenSpec.upto projLinesSpec)) projLinesUptoCard
end Rows
end Go.Proofs.YtfkpdmnabhejpaaDoor
