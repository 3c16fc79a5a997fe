/-
  DERIVED. GIVEN WITH THE SEED: THE CARDS: each row of YtfkpdmnabhejpaaGreatDoorRows.lean that lists a variable, with what it lists TIED to the program's text (the seventh form; the later family's looks); each row that meets fmt, with fmt's text TOLD by the authors' own Lean function (tested against real Go, not proved from fmt's source: count such statements apart). THE CARD IS WHAT COUNTS. Prove the row's statement (the work); the ties are given (YtfkpdmnabhejpaaGreatDoorTie.lean); close each card by the builder's one call (the guide's Derived/Test/ToyasCard.lean, 'card_holds'). Laid BY PROGRAM, IN A SANDBOX (cutbox-door.mjs). By AI agents, Wed Nov 11 2026. No macro, syntax, notation, axiom, sorry.
-/
import Derived.Test.YtfkpdmnabhejpaaGreatDoorRows
import GoSem.ClaimSeven
namespace Go.Proofs.YtfkpdmnabhejpaaGreatDoor
namespace Rows

/-- THE TIED CARD OF 'skymosaiclaw12.ProjFour'. -/
def projFourCard : Claim7 := { stood := { row := projFourRow, standIns := [], harness := (true, "b4c388cce439fed4f905933f8c76332a57484adf769e43e9b7bf666fb6a33182"), looks := true }, kinds := [], alts := [], laidByText := true, laidKinds := [.data, .data, .data], laidTests := true, laidLooks := .later }
def ProjFourCardSaid : Prop := Claim7.holds Tryz.pinned (.plain (OpenSpec.ofChange projFourSpec)) projFourCard

/-- THE TIED CARD OF 'skymosaiclaw12.ProjInverts'. -/
def projInvertsCard : Claim7 := { stood := { row := projInvertsRow, standIns := [], harness := (true, "b4c388cce439fed4f905933f8c76332a57484adf769e43e9b7bf666fb6a33182"), looks := true }, kinds := [], alts := [], laidByText := true, laidKinds := [.data, .data, .data], laidTests := true, laidLooks := .later }
def ProjInvertsCardSaid : Prop := Claim7.holds Tryz.pinned (.plain (OpenSpec.ofChange projInvertsSpec)) projInvertsCard

/-- THE TIED CARD OF 'skymosaiclaw12.ProjApplies'. -/
def projAppliesCard : Claim7 := { stood := { row := projAppliesRow, standIns := [], harness := (true, "b4c388cce439fed4f905933f8c76332a57484adf769e43e9b7bf666fb6a33182"), looks := true }, kinds := [], alts := [], laidByText := true, laidKinds := [.data, .data, .data, .data, .sentinel, .sentinel, .pinned], laidTests := true, laidLooks := .later }
def ProjAppliesCardSaid : Prop := Claim7.holds Tryz.pinned (.plain (OpenSpec.ofChange projAppliesSpec)) projAppliesCard

/-- THE TIED CARD OF 'skymosaiclaw12.ProjComposes'. -/
def projComposesCard : Claim7 := { stood := { row := projComposesRow, standIns := [], harness := (true, "b4c388cce439fed4f905933f8c76332a57484adf769e43e9b7bf666fb6a33182"), looks := true }, kinds := [], alts := [], laidByText := true, laidKinds := [.data, .data, .data, .data, .sentinel, .sentinel, .pinned], laidTests := true, laidLooks := .later }
def ProjComposesCardSaid : Prop := Claim7.holds Tryz.pinned (.plain (OpenSpec.ofChange projComposesSpec)) projComposesCard

/-- THE TIED CARD OF 'skymosaiclaw12.ProjBack'. -/
def projBackCard : Claim7 := { stood := { row := projBackRow, standIns := [], harness := (true, "b4c388cce439fed4f905933f8c76332a57484adf769e43e9b7bf666fb6a33182"), looks := true }, kinds := [], alts := [], laidByText := true, laidKinds := [.data, .data, .data, .data, .sentinel, .sentinel, .pinned], laidTests := true, laidLooks := .later }
def ProjBackCardSaid : Prop := Claim7.holds Tryz.pinned (.plain (OpenSpec.ofChange projBackSpec)) projBackCard

/-- THE SECOND FORM's CARD OF 'skymosaiclaw12.ProjFour'. -/
def projFourUptoCard : Claim7 := { stood := { row := projFourUptoRow, standIns := [], harness := (true, "b4c388cce439fed4f905933f8c76332a57484adf769e43e9b7bf666fb6a33182"), looks := true }, kinds := [], alts := [], laidByText := true, laidKinds := [.data, .data, .data], laidTests := true, laidLooks := .later }
def ProjFourUptoCardSaid : Prop := Claim7.holds Tryz.pinned (.plain (OpenSpec.upto projFourSpec)) projFourUptoCard

/-- THE SECOND FORM's CARD OF 'skymosaiclaw12.ProjInverts'. -/
def projInvertsUptoCard : Claim7 := { stood := { row := projInvertsUptoRow, standIns := [], harness := (true, "b4c388cce439fed4f905933f8c76332a57484adf769e43e9b7bf666fb6a33182"), looks := true }, kinds := [], alts := [], laidByText := true, laidKinds := [.data, .data, .data], laidTests := true, laidLooks := .later }
def ProjInvertsUptoCardSaid : Prop := Claim7.holds Tryz.pinned (.plain (OpenSpec.upto projInvertsSpec)) projInvertsUptoCard

/-- THE SECOND FORM's CARD OF 'skymosaiclaw12.ProjApplies'. -/
def projAppliesUptoCard : Claim7 := { stood := { row := projAppliesUptoRow, standIns := [], harness := (true, "b4c388cce439fed4f905933f8c76332a57484adf769e43e9b7bf666fb6a33182"), looks := true }, kinds := [], alts := [], laidByText := true, laidKinds := [.data, .data, .data, .data, .sentinel, .sentinel, .pinned], laidTests := true, laidLooks := .later }
def ProjAppliesUptoCardSaid : Prop := Claim7.holds Tryz.pinned (.plain (OpenSpec.upto projAppliesSpec)) projAppliesUptoCard

/-- THE SECOND FORM's CARD OF 'skymosaiclaw12.ProjComposes'. -/
def projComposesUptoCard : Claim7 := { stood := { row := projComposesUptoRow, standIns := [], harness := (true, "b4c388cce439fed4f905933f8c76332a57484adf769e43e9b7bf666fb6a33182"), looks := true }, kinds := [], alts := [], laidByText := true, laidKinds := [.data, .data, .data, .data, .sentinel, .sentinel, .pinned], laidTests := true, laidLooks := .later }
def ProjComposesUptoCardSaid : Prop := Claim7.holds Tryz.pinned (.plain (OpenSpec.upto projComposesSpec)) projComposesUptoCard

/-- THE SECOND FORM's CARD OF 'skymosaiclaw12.ProjBack'. -/
def projBackUptoCard : Claim7 := { stood := { row := projBackUptoRow, standIns := [], harness := (true, "b4c388cce439fed4f905933f8c76332a57484adf769e43e9b7bf666fb6a33182"), looks := true }, kinds := [], alts := [], laidByText := true, laidKinds := [.data, .data, .data, .data, .sentinel, .sentinel, .pinned], laidTests := true, laidLooks := .later }
def ProjBackUptoCardSaid : Prop := Claim7.holds Tryz.pinned (.plain (OpenSpec.upto projBackSpec)) projBackUptoCard
end Rows
end Go.Proofs.YtfkpdmnabhejpaaGreatDoor
