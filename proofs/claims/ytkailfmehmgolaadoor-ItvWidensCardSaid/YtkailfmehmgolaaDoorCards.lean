/-
  DERIVED. GIVEN WITH THE SEED: THE CARDS: each row of YtkailfmehmgolaaDoorRows.lean that lists a variable, with what it lists TIED to the program's text (the seventh form; the later family's looks); each row that meets fmt, with fmt's text TOLD by the authors' own Lean function (tested against real Go, not proved from fmt's source: count such statements apart). THE CARD IS WHAT COUNTS. Prove the row's statement (the work); the ties are given (YtkailfmehmgolaaDoorTie.lean); close each card by the builder's one call (the guide's Derived/Test/ToyasCard.lean, 'card_holds'). Laid BY PROGRAM, IN A SANDBOX (cutbox-door.mjs). By AI agents, Wed Nov 11 2026. No macro, syntax, notation, axiom, sorry.
-/
import Derived.Test.YtkailfmehmgolaaDoorRows
import GoSem.ClaimSeven
namespace Go.Proofs.YtkailfmehmgolaaDoor
namespace Rows

/-- THE TIED CARD OF 'warrantorlaw07.ItvTells'. -/
def itvTellsCard : Claim7 := { stood := { row := itvTellsRow, standIns := [], harness := (true, "4a3a9b0f39201798d25ab63d3d36bcbc8fe8b2dcb5fdaace2e274d80ee7a9883"), looks := false }, kinds := [], alts := [], laidByText := true, laidKinds := [.data, .data, .data], laidTests := true, laidLooks := .later }
def ItvTellsCardSaid : Prop := Claim7.holds Tryd.pinned (.plain (OpenSpec.ofChange itvTellsSpec)) itvTellsCard

/-- THE TIED CARD OF 'warrantorlaw07.ItvSets'. -/
def itvSetsCard : Claim7 := { stood := { row := itvSetsRow, standIns := [], harness := (true, "4a3a9b0f39201798d25ab63d3d36bcbc8fe8b2dcb5fdaace2e274d80ee7a9883"), looks := false }, kinds := [], alts := [], laidByText := true, laidKinds := [.data, .data, .data], laidTests := true, laidLooks := .later }
def ItvSetsCardSaid : Prop := Claim7.holds Tryd.pinned (.plain (OpenSpec.ofChange itvSetsSpec)) itvSetsCard

/-- THE TIED CARD OF 'warrantorlaw07.ItvLeast'. -/
def itvLeastCard : Claim7 := { stood := { row := itvLeastRow, standIns := [], harness := (true, "4a3a9b0f39201798d25ab63d3d36bcbc8fe8b2dcb5fdaace2e274d80ee7a9883"), looks := false }, kinds := [], alts := [], laidByText := true, laidKinds := [.data, .data, .data], laidTests := true, laidLooks := .later }
def ItvLeastCardSaid : Prop := Claim7.holds Tryd.pinned (.plain (OpenSpec.ofChange itvLeastSpec)) itvLeastCard

/-- THE TIED CARD OF 'warrantorlaw07.ItvWidens'. -/
def itvWidensCard : Claim7 := { stood := { row := itvWidensRow, standIns := [], harness := (true, "4a3a9b0f39201798d25ab63d3d36bcbc8fe8b2dcb5fdaace2e274d80ee7a9883"), looks := false }, kinds := [], alts := [], laidByText := true, laidKinds := [.data, .data, .data], laidTests := true, laidLooks := .later }
def ItvWidensCardSaid : Prop := Claim7.holds Tryd.pinned (.plain (OpenSpec.ofChange itvWidensSpec)) itvWidensCard

/-- THE TIED CARD OF 'warrantorlaw07.ItvTexts'. -/
def itvTextsCard : Claim7 := { stood := { row := itvTextsRow, standIns := [], harness := (true, "4a3a9b0f39201798d25ab63d3d36bcbc8fe8b2dcb5fdaace2e274d80ee7a9883"), looks := false }, kinds := [], alts := [], laidByText := true, laidKinds := [.data, .data, .data], laidTests := true, laidLooks := .later }
def ItvTextsCardSaid : Prop := Claim7.holds Tryd.pinned (.plain (OpenSpec.ofChange itvTextsSpec)) itvTextsCard

/-- THE SECOND FORM's CARD OF 'warrantorlaw07.ItvTells'. -/
def itvTellsUptoCard : Claim7 := { stood := { row := itvTellsUptoRow, standIns := [], harness := (true, "4a3a9b0f39201798d25ab63d3d36bcbc8fe8b2dcb5fdaace2e274d80ee7a9883"), looks := false }, kinds := [], alts := [], laidByText := true, laidKinds := [.data, .data, .data], laidTests := true, laidLooks := .later }
def ItvTellsUptoCardSaid : Prop := Claim7.holds Tryd.pinned (.plain (OpenSpec.upto itvTellsSpec)) itvTellsUptoCard

/-- THE SECOND FORM's CARD OF 'warrantorlaw07.ItvSets'. -/
def itvSetsUptoCard : Claim7 := { stood := { row := itvSetsUptoRow, standIns := [], harness := (true, "4a3a9b0f39201798d25ab63d3d36bcbc8fe8b2dcb5fdaace2e274d80ee7a9883"), looks := false }, kinds := [], alts := [], laidByText := true, laidKinds := [.data, .data, .data], laidTests := true, laidLooks := .later }
def ItvSetsUptoCardSaid : Prop := Claim7.holds Tryd.pinned (.plain (OpenSpec.upto itvSetsSpec)) itvSetsUptoCard

/-- THE SECOND FORM's CARD OF 'warrantorlaw07.ItvLeast'. -/
def itvLeastUptoCard : Claim7 := { stood := { row := itvLeastUptoRow, standIns := [], harness := (true, "4a3a9b0f39201798d25ab63d3d36bcbc8fe8b2dcb5fdaace2e274d80ee7a9883"), looks := false }, kinds := [], alts := [], laidByText := true, laidKinds := [.data, .data, .data], laidTests := true, laidLooks := .later }
def ItvLeastUptoCardSaid : Prop := Claim7.holds Tryd.pinned (.plain (OpenSpec.upto itvLeastSpec)) itvLeastUptoCard

/-- THE SECOND FORM's CARD OF 'warrantorlaw07.ItvWidens'. -/
def itvWidensUptoCard : Claim7 := { stood := { row := itvWidensUptoRow, standIns := [], harness := (true, "4a3a9b0f39201798d25ab63d3d36bcbc8fe8b2dcb5fdaace2e274d80ee7a9883"), looks := false }, kinds := [], alts := [], laidByText := true, laidKinds := [.data, .data, .data], laidTests := true, laidLooks := .later }
def ItvWidensUptoCardSaid : Prop := Claim7.holds Tryd.pinned (.plain (OpenSpec.upto itvWidensSpec)) itvWidensUptoCard

/-- THE SECOND FORM's CARD OF 'warrantorlaw07.ItvTexts'. -/
def itvTextsUptoCard : Claim7 := { stood := { row := itvTextsUptoRow, standIns := [], harness := (true, "4a3a9b0f39201798d25ab63d3d36bcbc8fe8b2dcb5fdaace2e274d80ee7a9883"), looks := false }, kinds := [], alts := [], laidByText := true, laidKinds := [.data, .data, .data], laidTests := true, laidLooks := .later }
def ItvTextsUptoCardSaid : Prop := Claim7.holds Tryd.pinned (.plain (OpenSpec.upto itvTextsSpec)) itvTextsUptoCard
end Rows
end Go.Proofs.YtkailfmehmgolaaDoor
