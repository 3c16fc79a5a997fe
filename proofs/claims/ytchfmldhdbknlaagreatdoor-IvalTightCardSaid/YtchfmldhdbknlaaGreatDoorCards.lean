/-
  DERIVED. GIVEN WITH THE SEED: THE CARDS: each row of YtchfmldhdbknlaaGreatDoorRows.lean that lists a variable, with what it lists TIED to the program's text (the seventh form; the later family's looks); each row that meets fmt, with fmt's text TOLD by the authors' own Lean function (tested against real Go, not proved from fmt's source: count such statements apart). THE CARD IS WHAT COUNTS. Prove the row's statement (the work); the ties are given (YtchfmldhdbknlaaGreatDoorTie.lean); close each card by the builder's one call (the guide's Derived/Test/ToyasCard.lean, 'card_holds'). Laid BY PROGRAM, IN A SANDBOX (cutbox-door.mjs). By AI agents, Wed Nov 11 2026. No macro, syntax, notation, axiom, sorry.
-/
import Derived.Test.YtchfmldhdbknlaaGreatDoorRows
import GoSem.ClaimSeven
namespace Go.Proofs.YtchfmldhdbknlaaGreatDoor
namespace Rows

/-- THE TIED CARD OF 'skymosaiclaw07.IvalMakes'. -/
def ivalMakesCard : Claim7 := { stood := { row := ivalMakesRow, standIns := [], harness := (true, "5ac533ee77bf4dbc04320b9d52aa329867a75bb6c37b0d4260df57474a354182"), looks := true }, kinds := [], alts := [], laidByText := true, laidKinds := [.data, .data, .data, .data, .sentinel, .sentinel, .funcs, .funcs, .pinned], laidTests := true, laidLooks := .later }
def IvalMakesCardSaid : Prop := Claim7.holds Tryz.pinned (.plain (OpenSpec.ofChange ivalMakesSpec)) ivalMakesCard

/-- THE TIED CARD OF 'skymosaiclaw07.IvalLattice'. -/
def ivalLatticeCard : Claim7 := { stood := { row := ivalLatticeRow, standIns := [], harness := (true, "5ac533ee77bf4dbc04320b9d52aa329867a75bb6c37b0d4260df57474a354182"), looks := true }, kinds := [], alts := [], laidByText := true, laidKinds := [.data, .data, .data, .data, .sentinel, .sentinel, .funcs, .funcs, .pinned], laidTests := true, laidLooks := .later }
def IvalLatticeCardSaid : Prop := Claim7.holds Tryz.pinned (.plain (OpenSpec.ofChange ivalLatticeSpec)) ivalLatticeCard

/-- THE TIED CARD OF 'skymosaiclaw07.IvalLimits'. -/
def ivalLimitsCard : Claim7 := { stood := { row := ivalLimitsRow, standIns := [], harness := (true, "5ac533ee77bf4dbc04320b9d52aa329867a75bb6c37b0d4260df57474a354182"), looks := true }, kinds := [], alts := [], laidByText := true, laidKinds := [.data, .data, .data, .data, .sentinel, .sentinel, .funcs, .funcs, .pinned], laidTests := true, laidLooks := .later }
def IvalLimitsCardSaid : Prop := Claim7.holds Tryz.pinned (.plain (OpenSpec.ofChange ivalLimitsSpec)) ivalLimitsCard

/-- THE TIED CARD OF 'skymosaiclaw07.IvalResults'. -/
def ivalResultsCard : Claim7 := { stood := { row := ivalResultsRow, standIns := [], harness := (true, "5ac533ee77bf4dbc04320b9d52aa329867a75bb6c37b0d4260df57474a354182"), looks := true }, kinds := [], alts := [], laidByText := true, laidKinds := [.data, .data, .data, .data, .sentinel, .sentinel, .funcs, .funcs, .pinned], laidTests := true, laidLooks := .later }
def IvalResultsCardSaid : Prop := Claim7.holds Tryz.pinned (.plain (OpenSpec.ofChange ivalResultsSpec)) ivalResultsCard

/-- THE TIED CARD OF 'skymosaiclaw07.IvalIncludes'. -/
def ivalIncludesCard : Claim7 := { stood := { row := ivalIncludesRow, standIns := [], harness := (true, "5ac533ee77bf4dbc04320b9d52aa329867a75bb6c37b0d4260df57474a354182"), looks := true }, kinds := [], alts := [], laidByText := true, laidKinds := [.data, .data, .data, .data, .sentinel, .sentinel, .funcs, .funcs, .pinned], laidTests := true, laidLooks := .later }
def IvalIncludesCardSaid : Prop := Claim7.holds Tryz.pinned (.plain (OpenSpec.ofChange ivalIncludesSpec)) ivalIncludesCard

/-- THE TIED CARD OF 'skymosaiclaw07.IvalSets'. -/
def ivalSetsCard : Claim7 := { stood := { row := ivalSetsRow, standIns := [], harness := (true, "5ac533ee77bf4dbc04320b9d52aa329867a75bb6c37b0d4260df57474a354182"), looks := true }, kinds := [], alts := [], laidByText := true, laidKinds := [.data, .data, .data, .data, .sentinel, .sentinel, .funcs, .funcs, .pinned], laidTests := true, laidLooks := .later }
def IvalSetsCardSaid : Prop := Claim7.holds Tryz.pinned (.plain (OpenSpec.ofChange ivalSetsSpec)) ivalSetsCard

/-- THE TIED CARD OF 'skymosaiclaw07.IvalTight'. -/
def ivalTightCard : Claim7 := { stood := { row := ivalTightRow, standIns := [], harness := (true, "5ac533ee77bf4dbc04320b9d52aa329867a75bb6c37b0d4260df57474a354182"), looks := true }, kinds := [], alts := [], laidByText := true, laidKinds := [.data, .data, .data, .data, .sentinel, .sentinel, .funcs, .funcs, .pinned], laidTests := true, laidLooks := .later }
def IvalTightCardSaid : Prop := Claim7.holds Tryz.pinned (.plain (OpenSpec.ofChange ivalTightSpec)) ivalTightCard

/-- THE TIED CARD OF 'skymosaiclaw07.IvalEncloses'. -/
def ivalEnclosesCard : Claim7 := { stood := { row := ivalEnclosesRow, standIns := [], harness := (true, "5ac533ee77bf4dbc04320b9d52aa329867a75bb6c37b0d4260df57474a354182"), looks := true }, kinds := [], alts := [], laidByText := true, laidKinds := [.data, .data, .data, .data, .sentinel, .sentinel, .funcs, .funcs, .pinned], laidTests := true, laidLooks := .later }
def IvalEnclosesCardSaid : Prop := Claim7.holds Tryz.pinned (.plain (OpenSpec.ofChange ivalEnclosesSpec)) ivalEnclosesCard

/-- THE SECOND FORM's CARD OF 'skymosaiclaw07.IvalMakes'. -/
def ivalMakesUptoCard : Claim7 := { stood := { row := ivalMakesUptoRow, standIns := [], harness := (true, "5ac533ee77bf4dbc04320b9d52aa329867a75bb6c37b0d4260df57474a354182"), looks := true }, kinds := [], alts := [], laidByText := true, laidKinds := [.data, .data, .data, .data, .sentinel, .sentinel, .funcs, .funcs, .pinned], laidTests := true, laidLooks := .later }
def IvalMakesUptoCardSaid : Prop := Claim7.holds Tryz.pinned (.plain (OpenSpec.upto ivalMakesSpec)) ivalMakesUptoCard

/-- THE SECOND FORM's CARD OF 'skymosaiclaw07.IvalLattice'. -/
def ivalLatticeUptoCard : Claim7 := { stood := { row := ivalLatticeUptoRow, standIns := [], harness := (true, "5ac533ee77bf4dbc04320b9d52aa329867a75bb6c37b0d4260df57474a354182"), looks := true }, kinds := [], alts := [], laidByText := true, laidKinds := [.data, .data, .data, .data, .sentinel, .sentinel, .funcs, .funcs, .pinned], laidTests := true, laidLooks := .later }
def IvalLatticeUptoCardSaid : Prop := Claim7.holds Tryz.pinned (.plain (OpenSpec.upto ivalLatticeSpec)) ivalLatticeUptoCard

/-- THE SECOND FORM's CARD OF 'skymosaiclaw07.IvalLimits'. -/
def ivalLimitsUptoCard : Claim7 := { stood := { row := ivalLimitsUptoRow, standIns := [], harness := (true, "5ac533ee77bf4dbc04320b9d52aa329867a75bb6c37b0d4260df57474a354182"), looks := true }, kinds := [], alts := [], laidByText := true, laidKinds := [.data, .data, .data, .data, .sentinel, .sentinel, .funcs, .funcs, .pinned], laidTests := true, laidLooks := .later }
def IvalLimitsUptoCardSaid : Prop := Claim7.holds Tryz.pinned (.plain (OpenSpec.upto ivalLimitsSpec)) ivalLimitsUptoCard

/-- THE SECOND FORM's CARD OF 'skymosaiclaw07.IvalResults'. -/
def ivalResultsUptoCard : Claim7 := { stood := { row := ivalResultsUptoRow, standIns := [], harness := (true, "5ac533ee77bf4dbc04320b9d52aa329867a75bb6c37b0d4260df57474a354182"), looks := true }, kinds := [], alts := [], laidByText := true, laidKinds := [.data, .data, .data, .data, .sentinel, .sentinel, .funcs, .funcs, .pinned], laidTests := true, laidLooks := .later }
def IvalResultsUptoCardSaid : Prop := Claim7.holds Tryz.pinned (.plain (OpenSpec.upto ivalResultsSpec)) ivalResultsUptoCard

/-- THE SECOND FORM's CARD OF 'skymosaiclaw07.IvalIncludes'. -/
def ivalIncludesUptoCard : Claim7 := { stood := { row := ivalIncludesUptoRow, standIns := [], harness := (true, "5ac533ee77bf4dbc04320b9d52aa329867a75bb6c37b0d4260df57474a354182"), looks := true }, kinds := [], alts := [], laidByText := true, laidKinds := [.data, .data, .data, .data, .sentinel, .sentinel, .funcs, .funcs, .pinned], laidTests := true, laidLooks := .later }
def IvalIncludesUptoCardSaid : Prop := Claim7.holds Tryz.pinned (.plain (OpenSpec.upto ivalIncludesSpec)) ivalIncludesUptoCard

/-- THE SECOND FORM's CARD OF 'skymosaiclaw07.IvalSets'. -/
def ivalSetsUptoCard : Claim7 := { stood := { row := ivalSetsUptoRow, standIns := [], harness := (true, "5ac533ee77bf4dbc04320b9d52aa329867a75bb6c37b0d4260df57474a354182"), looks := true }, kinds := [], alts := [], laidByText := true, laidKinds := [.data, .data, .data, .data, .sentinel, .sentinel, .funcs, .funcs, .pinned], laidTests := true, laidLooks := .later }
def IvalSetsUptoCardSaid : Prop := Claim7.holds Tryz.pinned (.plain (OpenSpec.upto ivalSetsSpec)) ivalSetsUptoCard

/-- THE SECOND FORM's CARD OF 'skymosaiclaw07.IvalTight'. -/
def ivalTightUptoCard : Claim7 := { stood := { row := ivalTightUptoRow, standIns := [], harness := (true, "5ac533ee77bf4dbc04320b9d52aa329867a75bb6c37b0d4260df57474a354182"), looks := true }, kinds := [], alts := [], laidByText := true, laidKinds := [.data, .data, .data, .data, .sentinel, .sentinel, .funcs, .funcs, .pinned], laidTests := true, laidLooks := .later }
def IvalTightUptoCardSaid : Prop := Claim7.holds Tryz.pinned (.plain (OpenSpec.upto ivalTightSpec)) ivalTightUptoCard

/-- THE SECOND FORM's CARD OF 'skymosaiclaw07.IvalEncloses'. -/
def ivalEnclosesUptoCard : Claim7 := { stood := { row := ivalEnclosesUptoRow, standIns := [], harness := (true, "5ac533ee77bf4dbc04320b9d52aa329867a75bb6c37b0d4260df57474a354182"), looks := true }, kinds := [], alts := [], laidByText := true, laidKinds := [.data, .data, .data, .data, .sentinel, .sentinel, .funcs, .funcs, .pinned], laidTests := true, laidLooks := .later }
def IvalEnclosesUptoCardSaid : Prop := Claim7.holds Tryz.pinned (.plain (OpenSpec.upto ivalEnclosesSpec)) ivalEnclosesUptoCard
end Rows
end Go.Proofs.YtchfmldhdbknlaaGreatDoor
