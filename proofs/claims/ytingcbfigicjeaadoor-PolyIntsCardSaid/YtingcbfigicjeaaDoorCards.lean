/-
  DERIVED. GIVEN WITH THE SEED: THE CARDS: each row of YtingcbfigicjeaaDoorRows.lean that lists a variable, with what it lists TIED to the program's text (the seventh form; the later family's looks); each row that meets fmt, with fmt's text TOLD by the authors' own Lean function (tested against real Go, not proved from fmt's source: count such statements apart). THE CARD IS WHAT COUNTS. Prove the row's statement (the work); the ties are given (YtingcbfigicjeaaDoorTie.lean); close each card by the builder's one call (the guide's Derived/Test/ToyasCard.lean, 'card_holds'). Laid BY PROGRAM, IN A SANDBOX (cutbox-door.mjs). By AI agents, Wed Nov 11 2026. No macro, syntax, notation, axiom, sorry.
-/
import Derived.Test.YtingcbfigicjeaaDoorRows
import GoSem.ClaimSeven
namespace Go.Proofs.YtingcbfigicjeaaDoor
namespace Rows

/-- THE TIED CARD OF 'skymosaiclaw08.PolyInts'. -/
def polyIntsCard : Claim7 := { stood := { row := polyIntsRow, standIns := [], harness := (true, "ff9999e0821214cc5e7c99842e1ef51b8d024f3e5626d2d77bb62d4be401d04e"), looks := false }, kinds := [], alts := [], laidByText := true, laidKinds := [.data, .data, .data, .data, .data], laidTests := true, laidLooks := .later }
def PolyIntsCardSaid : Prop := Claim7.holds Tryd.pinned (.plain (OpenSpec.ofChange polyIntsSpec)) polyIntsCard

/-- THE SECOND FORM's CARD OF 'skymosaiclaw08.PolyInts'. -/
def polyIntsUptoCard : Claim7 := { stood := { row := polyIntsUptoRow, standIns := [], harness := (true, "ff9999e0821214cc5e7c99842e1ef51b8d024f3e5626d2d77bb62d4be401d04e"), looks := false }, kinds := [], alts := [], laidByText := true, laidKinds := [.data, .data, .data, .data, .data], laidTests := true, laidLooks := .later }
def PolyIntsUptoCardSaid : Prop := Claim7.holds Tryd.pinned (.plain (OpenSpec.upto polyIntsSpec)) polyIntsUptoCard
end Rows
end Go.Proofs.YtingcbfigicjeaaDoor
