/-
  DERIVED. GIVEN WITH THE SEED: THE CARDS: each row of YthjpijjeidddoaaGreatDoorRows.lean that lists a variable, with what it lists TIED to the program's text (the seventh form; the later family's looks); each row that meets fmt, with fmt's text TOLD by the authors' own Lean function (tested against real Go, not proved from fmt's source: count such statements apart). THE CARD IS WHAT COUNTS. Prove the row's statement (the work); the ties are given (YthjpijjeidddoaaGreatDoorTie.lean); close each card by the builder's one call (the guide's Derived/Test/ToyasCard.lean, 'card_holds'). Laid BY PROGRAM, IN A SANDBOX (cutbox-door.mjs). By AI agents, Wed Nov 11 2026. No macro, syntax, notation, axiom, sorry.
-/
import Derived.Test.YthjpijjeidddoaaGreatDoorRows
import GoSem.ClaimSeven
namespace Go.Proofs.YthjpijjeidddoaaGreatDoor
namespace Rows

/-- THE TIED CARD OF 'skymosaiclaw12.ProjBytes'. -/
def projBytesCard : Claim7 := { stood := { row := projBytesRow, standIns := [], harness := (true, "c04cb5d83a5a3b27a01659dc96d9bcbf3b006323889bb14295db02e0760181d7"), looks := true }, kinds := [], alts := [], laidByText := true, laidKinds := [.data, .data, .data], laidTests := true, laidLooks := .later }
def ProjBytesCardSaid : Prop := Claim7.holds Tryz.pinned (.plain (OpenSpec.ofChange projBytesSpec)) projBytesCard

/-- THE TIED CARD OF 'skymosaiclaw12.ProjEncloses'. -/
def projEnclosesCard : Claim7 := { stood := { row := projEnclosesRow, standIns := [], harness := (true, "c04cb5d83a5a3b27a01659dc96d9bcbf3b006323889bb14295db02e0760181d7"), looks := true }, kinds := [], alts := [], laidByText := true, laidKinds := [.data, .data, .data, .data, .sentinel, .sentinel, .funcs, .funcs, .pinned], laidTests := true, laidLooks := .later }
def ProjEnclosesCardSaid : Prop := Claim7.holds Tryz.pinned (.plain (OpenSpec.ofChange projEnclosesSpec)) projEnclosesCard

/-- THE SECOND FORM's CARD OF 'skymosaiclaw12.ProjBytes'. -/
def projBytesUptoCard : Claim7 := { stood := { row := projBytesUptoRow, standIns := [], harness := (true, "c04cb5d83a5a3b27a01659dc96d9bcbf3b006323889bb14295db02e0760181d7"), looks := true }, kinds := [], alts := [], laidByText := true, laidKinds := [.data, .data, .data], laidTests := true, laidLooks := .later }
def ProjBytesUptoCardSaid : Prop := Claim7.holds Tryz.pinned (.plain (OpenSpec.upto projBytesSpec)) projBytesUptoCard

/-- THE SECOND FORM's CARD OF 'skymosaiclaw12.ProjEncloses'. -/
def projEnclosesUptoCard : Claim7 := { stood := { row := projEnclosesUptoRow, standIns := [], harness := (true, "c04cb5d83a5a3b27a01659dc96d9bcbf3b006323889bb14295db02e0760181d7"), looks := true }, kinds := [], alts := [], laidByText := true, laidKinds := [.data, .data, .data, .data, .sentinel, .sentinel, .funcs, .funcs, .pinned], laidTests := true, laidLooks := .later }
def ProjEnclosesUptoCardSaid : Prop := Claim7.holds Tryz.pinned (.plain (OpenSpec.upto projEnclosesSpec)) projEnclosesUptoCard
end Rows
end Go.Proofs.YthjpijjeidddoaaGreatDoor
