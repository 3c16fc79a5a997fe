/-
  DERIVED. GIVEN WITH THE SEED: THE CARDS: each row of YtndbnkkjmeeldaaGreatDoorRows.lean that lists a variable, with what it lists TIED to the program's text (the seventh form; the later family's looks); each row that meets fmt, with fmt's text TOLD by the authors' own Lean function (tested against real Go, not proved from fmt's source: count such statements apart). THE CARD IS WHAT COUNTS. Prove the row's statement (the work); the ties are given (YtndbnkkjmeeldaaGreatDoorTie.lean); close each card by the builder's one call (the guide's Derived/Test/ToyasCard.lean, 'card_holds'). Laid BY PROGRAM, IN A SANDBOX (cutbox-door.mjs). By AI agents, Wed Nov 11 2026. No macro, syntax, notation, axiom, sorry.
-/
import Derived.Test.YtndbnkkjmeeldaaGreatDoorRows
import GoSem.ClaimSeven
namespace Go.Proofs.YtndbnkkjmeeldaaGreatDoor
namespace Rows

/-- THE TIED CARD OF 'skymosaiclaw10.TerrainMakes'. -/
def terrainMakesCard : Claim7 := { stood := { row := terrainMakesRow, standIns := [], harness := (true, "85c1cc76e759ff8781e0625ccf711518da3f1f0e5864836f628bd43bb8995608"), looks := true }, kinds := [], alts := [], laidByText := true, laidKinds := [.data, .data, .data], laidTests := true, laidLooks := .later }
def TerrainMakesCardSaid : Prop := Claim7.holds Tryz.pinned (.plain (OpenSpec.ofChange terrainMakesSpec)) terrainMakesCard

/-- THE TIED CARD OF 'skymosaiclaw10.TerrainLines'. -/
def terrainLinesCard : Claim7 := { stood := { row := terrainLinesRow, standIns := [], harness := (true, "85c1cc76e759ff8781e0625ccf711518da3f1f0e5864836f628bd43bb8995608"), looks := true }, kinds := [], alts := [], laidByText := true, laidKinds := [.data, .data, .data], laidTests := true, laidLooks := .later }
def TerrainLinesCardSaid : Prop := Claim7.holds Tryz.pinned (.plain (OpenSpec.ofChange terrainLinesSpec)) terrainLinesCard

/-- THE TIED CARD OF 'skymosaiclaw10.TerrainValid'. -/
def terrainValidCard : Claim7 := { stood := { row := terrainValidRow, standIns := [], harness := (true, "85c1cc76e759ff8781e0625ccf711518da3f1f0e5864836f628bd43bb8995608"), looks := true }, kinds := [], alts := [], laidByText := true, laidKinds := [.data, .data, .data], laidTests := true, laidLooks := .later }
def TerrainValidCardSaid : Prop := Claim7.holds Tryz.pinned (.plain (OpenSpec.ofChange terrainValidSpec)) terrainValidCard

/-- THE TIED CARD OF 'skymosaiclaw10.TerrainHeights'. -/
def terrainHeightsCard : Claim7 := { stood := { row := terrainHeightsRow, standIns := [], harness := (true, "85c1cc76e759ff8781e0625ccf711518da3f1f0e5864836f628bd43bb8995608"), looks := true }, kinds := [], alts := [], laidByText := true, laidKinds := [.data, .data, .data, .data, .sentinel, .sentinel, .pinned], laidTests := true, laidLooks := .later }
def TerrainHeightsCardSaid : Prop := Claim7.holds Tryz.pinned (.plain (OpenSpec.ofChange terrainHeightsSpec)) terrainHeightsCard

/-- THE TIED CARD OF 'skymosaiclaw10.TerrainLong'. -/
def terrainLongCard : Claim7 := { stood := { row := terrainLongRow, standIns := [], harness := (true, "85c1cc76e759ff8781e0625ccf711518da3f1f0e5864836f628bd43bb8995608"), looks := true }, kinds := [], alts := [], laidByText := true, laidKinds := [.data, .data, .data, .data, .sentinel, .sentinel, .pinned], laidTests := true, laidLooks := .later }
def TerrainLongCardSaid : Prop := Claim7.holds Tryz.pinned (.plain (OpenSpec.ofChange terrainLongSpec)) terrainLongCard

/-- THE SECOND FORM's CARD OF 'skymosaiclaw10.TerrainMakes'. -/
def terrainMakesUptoCard : Claim7 := { stood := { row := terrainMakesUptoRow, standIns := [], harness := (true, "85c1cc76e759ff8781e0625ccf711518da3f1f0e5864836f628bd43bb8995608"), looks := true }, kinds := [], alts := [], laidByText := true, laidKinds := [.data, .data, .data], laidTests := true, laidLooks := .later }
def TerrainMakesUptoCardSaid : Prop := Claim7.holds Tryz.pinned (.plain (OpenSpec.upto terrainMakesSpec)) terrainMakesUptoCard

/-- THE SECOND FORM's CARD OF 'skymosaiclaw10.TerrainLines'. -/
def terrainLinesUptoCard : Claim7 := { stood := { row := terrainLinesUptoRow, standIns := [], harness := (true, "85c1cc76e759ff8781e0625ccf711518da3f1f0e5864836f628bd43bb8995608"), looks := true }, kinds := [], alts := [], laidByText := true, laidKinds := [.data, .data, .data], laidTests := true, laidLooks := .later }
def TerrainLinesUptoCardSaid : Prop := Claim7.holds Tryz.pinned (.plain (OpenSpec.upto terrainLinesSpec)) terrainLinesUptoCard

/-- THE SECOND FORM's CARD OF 'skymosaiclaw10.TerrainValid'. -/
def terrainValidUptoCard : Claim7 := { stood := { row := terrainValidUptoRow, standIns := [], harness := (true, "85c1cc76e759ff8781e0625ccf711518da3f1f0e5864836f628bd43bb8995608"), looks := true }, kinds := [], alts := [], laidByText := true, laidKinds := [.data, .data, .data], laidTests := true, laidLooks := .later }
def TerrainValidUptoCardSaid : Prop := Claim7.holds Tryz.pinned (.plain (OpenSpec.upto terrainValidSpec)) terrainValidUptoCard

/-- THE SECOND FORM's CARD OF 'skymosaiclaw10.TerrainHeights'. -/
def terrainHeightsUptoCard : Claim7 := { stood := { row := terrainHeightsUptoRow, standIns := [], harness := (true, "85c1cc76e759ff8781e0625ccf711518da3f1f0e5864836f628bd43bb8995608"), looks := true }, kinds := [], alts := [], laidByText := true, laidKinds := [.data, .data, .data, .data, .sentinel, .sentinel, .pinned], laidTests := true, laidLooks := .later }
def TerrainHeightsUptoCardSaid : Prop := Claim7.holds Tryz.pinned (.plain (OpenSpec.upto terrainHeightsSpec)) terrainHeightsUptoCard

/-- THE SECOND FORM's CARD OF 'skymosaiclaw10.TerrainLong'. -/
def terrainLongUptoCard : Claim7 := { stood := { row := terrainLongUptoRow, standIns := [], harness := (true, "85c1cc76e759ff8781e0625ccf711518da3f1f0e5864836f628bd43bb8995608"), looks := true }, kinds := [], alts := [], laidByText := true, laidKinds := [.data, .data, .data, .data, .sentinel, .sentinel, .pinned], laidTests := true, laidLooks := .later }
def TerrainLongUptoCardSaid : Prop := Claim7.holds Tryz.pinned (.plain (OpenSpec.upto terrainLongSpec)) terrainLongUptoCard
end Rows
end Go.Proofs.YtndbnkkjmeeldaaGreatDoor
