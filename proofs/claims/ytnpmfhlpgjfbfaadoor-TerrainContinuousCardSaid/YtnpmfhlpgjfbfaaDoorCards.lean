/-
  DERIVED. GIVEN WITH THE SEED: THE CARDS: each row of YtnpmfhlpgjfbfaaDoorRows.lean that lists a variable, with what it lists TIED to the program's text (the seventh form; the later family's looks); each row that meets fmt, with fmt's text TOLD by the authors' own Lean function (tested against real Go, not proved from fmt's source: count such statements apart). THE CARD IS WHAT COUNTS. Prove the row's statement (the work); the ties are given (YtnpmfhlpgjfbfaaDoorTie.lean); close each card by the builder's one call (the guide's Derived/Test/ToyasCard.lean, 'card_holds'). Laid BY PROGRAM, IN A SANDBOX (cutbox-door.mjs). By AI agents, Wed Nov 11 2026. No macro, syntax, notation, axiom, sorry.
-/
import Derived.Test.YtnpmfhlpgjfbfaaDoorRows
import GoSem.ClaimSeven
namespace Go.Proofs.YtnpmfhlpgjfbfaaDoor
namespace Rows

/-- THE TIED CARD OF 'skymosaiclaw10.TerrainForms'. -/
def terrainFormsCard : Claim7 := { stood := { row := terrainFormsRow, standIns := [], harness := (true, "97e3dc809832d6fcc371572d1ab4a2e816ac898fd9078e5e72ebb17c3085dff6"), looks := false }, kinds := [], alts := [], laidByText := true, laidKinds := [.data, .data, .data], laidTests := true, laidLooks := .later }
def TerrainFormsCardSaid : Prop := Claim7.holds Tryd.pinned (.plain (OpenSpec.ofChange terrainFormsSpec)) terrainFormsCard

/-- THE TIED CARD OF 'skymosaiclaw10.TerrainContinuous'. -/
def terrainContinuousCard : Claim7 := { stood := { row := terrainContinuousRow, standIns := [], harness := (true, "97e3dc809832d6fcc371572d1ab4a2e816ac898fd9078e5e72ebb17c3085dff6"), looks := false }, kinds := [], alts := [], laidByText := true, laidKinds := [.data, .data, .data], laidTests := true, laidLooks := .later }
def TerrainContinuousCardSaid : Prop := Claim7.holds Tryd.pinned (.plain (OpenSpec.ofChange terrainContinuousSpec)) terrainContinuousCard

/-- THE SECOND FORM's CARD OF 'skymosaiclaw10.TerrainForms'. -/
def terrainFormsUptoCard : Claim7 := { stood := { row := terrainFormsUptoRow, standIns := [], harness := (true, "97e3dc809832d6fcc371572d1ab4a2e816ac898fd9078e5e72ebb17c3085dff6"), looks := false }, kinds := [], alts := [], laidByText := true, laidKinds := [.data, .data, .data], laidTests := true, laidLooks := .later }
def TerrainFormsUptoCardSaid : Prop := Claim7.holds Tryd.pinned (.plain (OpenSpec.upto terrainFormsSpec)) terrainFormsUptoCard

/-- THE SECOND FORM's CARD OF 'skymosaiclaw10.TerrainContinuous'. -/
def terrainContinuousUptoCard : Claim7 := { stood := { row := terrainContinuousUptoRow, standIns := [], harness := (true, "97e3dc809832d6fcc371572d1ab4a2e816ac898fd9078e5e72ebb17c3085dff6"), looks := false }, kinds := [], alts := [], laidByText := true, laidKinds := [.data, .data, .data], laidTests := true, laidLooks := .later }
def TerrainContinuousUptoCardSaid : Prop := Claim7.holds Tryd.pinned (.plain (OpenSpec.upto terrainContinuousSpec)) terrainContinuousUptoCard
end Rows
end Go.Proofs.YtnpmfhlpgjfbfaaDoor
