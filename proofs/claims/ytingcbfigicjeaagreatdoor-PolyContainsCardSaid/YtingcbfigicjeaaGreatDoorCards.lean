/-
  DERIVED. GIVEN WITH THE SEED: THE CARDS: each row of YtingcbfigicjeaaGreatDoorRows.lean that lists a variable, with what it lists TIED to the program's text (the seventh form; the later family's looks); each row that meets fmt, with fmt's text TOLD by the authors' own Lean function (tested against real Go, not proved from fmt's source: count such statements apart). THE CARD IS WHAT COUNTS. Prove the row's statement (the work); the ties are given (YtingcbfigicjeaaGreatDoorTie.lean); close each card by the builder's one call (the guide's Derived/Test/ToyasCard.lean, 'card_holds'). Laid BY PROGRAM, IN A SANDBOX (cutbox-door.mjs). By AI agents, Wed Nov 11 2026. No macro, syntax, notation, axiom, sorry.
-/
import Derived.Test.YtingcbfigicjeaaGreatDoorRows
import GoSem.ClaimSeven
namespace Go.Proofs.YtingcbfigicjeaaGreatDoor
namespace Rows

/-- THE TIED CARD OF 'skymosaiclaw08.PolyShifts'. -/
def polyShiftsCard : Claim7 := { stood := { row := polyShiftsRow, standIns := [], harness := (true, "adffe30784a8d54717938ba18c78e6b334706042e8deb70cbee8d6df45903cb5"), looks := true }, kinds := [], alts := [], laidByText := true, laidKinds := [.data, .data, .data, .data, .data], laidTests := true, laidLooks := .later }
def PolyShiftsCardSaid : Prop := Claim7.holds Tryz.pinned (.plain (OpenSpec.ofChange polyShiftsSpec)) polyShiftsCard

/-- THE TIED CARD OF 'skymosaiclaw08.PolyBytes'. -/
def polyBytesCard : Claim7 := { stood := { row := polyBytesRow, standIns := [], harness := (true, "adffe30784a8d54717938ba18c78e6b334706042e8deb70cbee8d6df45903cb5"), looks := true }, kinds := [], alts := [], laidByText := true, laidKinds := [.data, .data, .data, .data, .data], laidTests := true, laidLooks := .later }
def PolyBytesCardSaid : Prop := Claim7.holds Tryz.pinned (.plain (OpenSpec.ofChange polyBytesSpec)) polyBytesCard

/-- THE TIED CARD OF 'skymosaiclaw08.PolyDigits'. -/
def polyDigitsCard : Claim7 := { stood := { row := polyDigitsRow, standIns := [], harness := (true, "adffe30784a8d54717938ba18c78e6b334706042e8deb70cbee8d6df45903cb5"), looks := true }, kinds := [], alts := [], laidByText := true, laidKinds := [.data, .data, .data, .data, .sentinel, .sentinel, .data, .data, .pinned], laidTests := true, laidLooks := .later }
def PolyDigitsCardSaid : Prop := Claim7.holds Tryz.pinned (.plain (OpenSpec.ofChange polyDigitsSpec)) polyDigitsCard

/-- THE TIED CARD OF 'skymosaiclaw08.PolyGrads'. -/
def polyGradsCard : Claim7 := { stood := { row := polyGradsRow, standIns := [], harness := (true, "adffe30784a8d54717938ba18c78e6b334706042e8deb70cbee8d6df45903cb5"), looks := true }, kinds := [], alts := [], laidByText := true, laidKinds := [.data, .data, .data, .data, .sentinel, .sentinel, .data, .data, .pinned], laidTests := true, laidLooks := .later }
def PolyGradsCardSaid : Prop := Claim7.holds Tryz.pinned (.plain (OpenSpec.ofChange polyGradsSpec)) polyGradsCard

/-- THE TIED CARD OF 'skymosaiclaw08.PolySums'. -/
def polySumsCard : Claim7 := { stood := { row := polySumsRow, standIns := [], harness := (true, "adffe30784a8d54717938ba18c78e6b334706042e8deb70cbee8d6df45903cb5"), looks := true }, kinds := [], alts := [], laidByText := true, laidKinds := [.data, .data, .data, .data, .sentinel, .sentinel, .data, .data, .pinned], laidTests := true, laidLooks := .later }
def PolySumsCardSaid : Prop := Claim7.holds Tryz.pinned (.plain (OpenSpec.ofChange polySumsSpec)) polySumsCard

/-- THE TIED CARD OF 'skymosaiclaw08.PolyEncloses'. -/
def polyEnclosesCard : Claim7 := { stood := { row := polyEnclosesRow, standIns := [], harness := (true, "adffe30784a8d54717938ba18c78e6b334706042e8deb70cbee8d6df45903cb5"), looks := true }, kinds := [], alts := [], laidByText := true, laidKinds := [.data, .data, .data, .data, .sentinel, .sentinel, .funcs, .funcs, .data, .data, .pinned], laidTests := true, laidLooks := .later }
def PolyEnclosesCardSaid : Prop := Claim7.holds Tryz.pinned (.plain (OpenSpec.ofChange polyEnclosesSpec)) polyEnclosesCard

/-- THE TIED CARD OF 'skymosaiclaw08.PolyContains'. -/
def polyContainsCard : Claim7 := { stood := { row := polyContainsRow, standIns := [], harness := (true, "adffe30784a8d54717938ba18c78e6b334706042e8deb70cbee8d6df45903cb5"), looks := true }, kinds := [], alts := [], laidByText := true, laidKinds := [.data, .data, .data, .data, .sentinel, .sentinel, .funcs, .funcs, .data, .data, .pinned], laidTests := true, laidLooks := .later }
def PolyContainsCardSaid : Prop := Claim7.holds Tryz.pinned (.plain (OpenSpec.ofChange polyContainsSpec)) polyContainsCard

/-- THE SECOND FORM's CARD OF 'skymosaiclaw08.PolyShifts'. -/
def polyShiftsUptoCard : Claim7 := { stood := { row := polyShiftsUptoRow, standIns := [], harness := (true, "adffe30784a8d54717938ba18c78e6b334706042e8deb70cbee8d6df45903cb5"), looks := true }, kinds := [], alts := [], laidByText := true, laidKinds := [.data, .data, .data, .data, .data], laidTests := true, laidLooks := .later }
def PolyShiftsUptoCardSaid : Prop := Claim7.holds Tryz.pinned (.plain (OpenSpec.upto polyShiftsSpec)) polyShiftsUptoCard

/-- THE SECOND FORM's CARD OF 'skymosaiclaw08.PolyBytes'. -/
def polyBytesUptoCard : Claim7 := { stood := { row := polyBytesUptoRow, standIns := [], harness := (true, "adffe30784a8d54717938ba18c78e6b334706042e8deb70cbee8d6df45903cb5"), looks := true }, kinds := [], alts := [], laidByText := true, laidKinds := [.data, .data, .data, .data, .data], laidTests := true, laidLooks := .later }
def PolyBytesUptoCardSaid : Prop := Claim7.holds Tryz.pinned (.plain (OpenSpec.upto polyBytesSpec)) polyBytesUptoCard

/-- THE SECOND FORM's CARD OF 'skymosaiclaw08.PolyDigits'. -/
def polyDigitsUptoCard : Claim7 := { stood := { row := polyDigitsUptoRow, standIns := [], harness := (true, "adffe30784a8d54717938ba18c78e6b334706042e8deb70cbee8d6df45903cb5"), looks := true }, kinds := [], alts := [], laidByText := true, laidKinds := [.data, .data, .data, .data, .sentinel, .sentinel, .data, .data, .pinned], laidTests := true, laidLooks := .later }
def PolyDigitsUptoCardSaid : Prop := Claim7.holds Tryz.pinned (.plain (OpenSpec.upto polyDigitsSpec)) polyDigitsUptoCard

/-- THE SECOND FORM's CARD OF 'skymosaiclaw08.PolyGrads'. -/
def polyGradsUptoCard : Claim7 := { stood := { row := polyGradsUptoRow, standIns := [], harness := (true, "adffe30784a8d54717938ba18c78e6b334706042e8deb70cbee8d6df45903cb5"), looks := true }, kinds := [], alts := [], laidByText := true, laidKinds := [.data, .data, .data, .data, .sentinel, .sentinel, .data, .data, .pinned], laidTests := true, laidLooks := .later }
def PolyGradsUptoCardSaid : Prop := Claim7.holds Tryz.pinned (.plain (OpenSpec.upto polyGradsSpec)) polyGradsUptoCard

/-- THE SECOND FORM's CARD OF 'skymosaiclaw08.PolySums'. -/
def polySumsUptoCard : Claim7 := { stood := { row := polySumsUptoRow, standIns := [], harness := (true, "adffe30784a8d54717938ba18c78e6b334706042e8deb70cbee8d6df45903cb5"), looks := true }, kinds := [], alts := [], laidByText := true, laidKinds := [.data, .data, .data, .data, .sentinel, .sentinel, .data, .data, .pinned], laidTests := true, laidLooks := .later }
def PolySumsUptoCardSaid : Prop := Claim7.holds Tryz.pinned (.plain (OpenSpec.upto polySumsSpec)) polySumsUptoCard

/-- THE SECOND FORM's CARD OF 'skymosaiclaw08.PolyEncloses'. -/
def polyEnclosesUptoCard : Claim7 := { stood := { row := polyEnclosesUptoRow, standIns := [], harness := (true, "adffe30784a8d54717938ba18c78e6b334706042e8deb70cbee8d6df45903cb5"), looks := true }, kinds := [], alts := [], laidByText := true, laidKinds := [.data, .data, .data, .data, .sentinel, .sentinel, .funcs, .funcs, .data, .data, .pinned], laidTests := true, laidLooks := .later }
def PolyEnclosesUptoCardSaid : Prop := Claim7.holds Tryz.pinned (.plain (OpenSpec.upto polyEnclosesSpec)) polyEnclosesUptoCard

/-- THE SECOND FORM's CARD OF 'skymosaiclaw08.PolyContains'. -/
def polyContainsUptoCard : Claim7 := { stood := { row := polyContainsUptoRow, standIns := [], harness := (true, "adffe30784a8d54717938ba18c78e6b334706042e8deb70cbee8d6df45903cb5"), looks := true }, kinds := [], alts := [], laidByText := true, laidKinds := [.data, .data, .data, .data, .sentinel, .sentinel, .funcs, .funcs, .data, .data, .pinned], laidTests := true, laidLooks := .later }
def PolyContainsUptoCardSaid : Prop := Claim7.holds Tryz.pinned (.plain (OpenSpec.upto polyContainsSpec)) polyContainsUptoCard
end Rows
end Go.Proofs.YtingcbfigicjeaaGreatDoor
