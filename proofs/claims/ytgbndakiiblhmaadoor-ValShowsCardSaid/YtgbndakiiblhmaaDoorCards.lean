/-
  DERIVED. GIVEN WITH THE SEED: THE CARDS: each row of YtgbndakiiblhmaaDoorRows.lean that lists a variable, with what it lists TIED to the program's text (the seventh form; the later family's looks); each row that meets fmt, with fmt's text TOLD by the authors' own Lean function (tested against real Go, not proved from fmt's source: count such statements apart). THE CARD IS WHAT COUNTS. Prove the row's statement (the work); the ties are given (YtgbndakiiblhmaaDoorTie.lean); close each card by the builder's one call (the guide's Derived/Test/ToyasCard.lean, 'card_holds'). Laid BY PROGRAM, IN A SANDBOX (cutbox-door.mjs). By AI agents, Wed Nov 11 2026. No macro, syntax, notation, axiom, sorry.
-/
import Derived.Test.YtgbndakiiblhmaaDoorRows
import GoSem.ClaimSeven
namespace Go.Proofs.YtgbndakiiblhmaaDoor
namespace Rows

/-- THE TIED CARD OF 'warrantorlaw06.ValClips'. -/
def valClipsCard : Claim7 := { stood := { row := valClipsRow, standIns := [], harness := (true, "43e46febe2b46633ca9c5779cc1d234c337ea91872375886bb438a1eca8b793b"), looks := false }, kinds := [], alts := [], laidByText := true, laidKinds := [.data, .data, .data], laidTests := true, laidLooks := .later }
def ValClipsCardSaid : Prop := Claim7.holds Tryd.pinned (.plain (OpenSpec.ofChange valClipsSpec)) valClipsCard

/-- THE TIED CARD OF 'warrantorlaw06.ValShows'. -/
def valShowsCard : Claim7 := { stood := { row := valShowsRow, standIns := [], harness := (true, "43e46febe2b46633ca9c5779cc1d234c337ea91872375886bb438a1eca8b793b"), looks := false }, kinds := [], alts := [], laidByText := true, laidKinds := [.data, .data, .data], laidTests := true, laidLooks := .later }
def ValShowsCardSaid : Prop := Claim7.holds Tryd.pinned (.plain (OpenSpec.ofChange valShowsSpec)) valShowsCard

/-- THE TIED CARD OF 'warrantorlaw06.ValParses'. -/
def valParsesCard : Claim7 := { stood := { row := valParsesRow, standIns := [], harness := (true, "43e46febe2b46633ca9c5779cc1d234c337ea91872375886bb438a1eca8b793b"), looks := false }, kinds := [], alts := [], laidByText := true, laidKinds := [.data, .data, .data], laidTests := true, laidLooks := .later }
def ValParsesCardSaid : Prop := Claim7.holds Tryd.pinned (.plain (OpenSpec.ofChange valParsesSpec)) valParsesCard

/-- THE TIED CARD OF 'warrantorlaw06.ValSums'. -/
def valSumsCard : Claim7 := { stood := { row := valSumsRow, standIns := [], harness := (true, "43e46febe2b46633ca9c5779cc1d234c337ea91872375886bb438a1eca8b793b"), looks := false }, kinds := [], alts := [], laidByText := true, laidKinds := [.data, .data, .data], laidTests := true, laidLooks := .later }
def ValSumsCardSaid : Prop := Claim7.holds Tryd.pinned (.plain (OpenSpec.ofChange valSumsSpec)) valSumsCard

/-- THE SECOND FORM's CARD OF 'warrantorlaw06.ValClips'. -/
def valClipsUptoCard : Claim7 := { stood := { row := valClipsUptoRow, standIns := [], harness := (true, "43e46febe2b46633ca9c5779cc1d234c337ea91872375886bb438a1eca8b793b"), looks := false }, kinds := [], alts := [], laidByText := true, laidKinds := [.data, .data, .data], laidTests := true, laidLooks := .later }
def ValClipsUptoCardSaid : Prop := Claim7.holds Tryd.pinned (.plain (OpenSpec.upto valClipsSpec)) valClipsUptoCard

/-- THE SECOND FORM's CARD OF 'warrantorlaw06.ValShows'. -/
def valShowsUptoCard : Claim7 := { stood := { row := valShowsUptoRow, standIns := [], harness := (true, "43e46febe2b46633ca9c5779cc1d234c337ea91872375886bb438a1eca8b793b"), looks := false }, kinds := [], alts := [], laidByText := true, laidKinds := [.data, .data, .data], laidTests := true, laidLooks := .later }
def ValShowsUptoCardSaid : Prop := Claim7.holds Tryd.pinned (.plain (OpenSpec.upto valShowsSpec)) valShowsUptoCard

/-- THE SECOND FORM's CARD OF 'warrantorlaw06.ValParses'. -/
def valParsesUptoCard : Claim7 := { stood := { row := valParsesUptoRow, standIns := [], harness := (true, "43e46febe2b46633ca9c5779cc1d234c337ea91872375886bb438a1eca8b793b"), looks := false }, kinds := [], alts := [], laidByText := true, laidKinds := [.data, .data, .data], laidTests := true, laidLooks := .later }
def ValParsesUptoCardSaid : Prop := Claim7.holds Tryd.pinned (.plain (OpenSpec.upto valParsesSpec)) valParsesUptoCard

/-- THE SECOND FORM's CARD OF 'warrantorlaw06.ValSums'. -/
def valSumsUptoCard : Claim7 := { stood := { row := valSumsUptoRow, standIns := [], harness := (true, "43e46febe2b46633ca9c5779cc1d234c337ea91872375886bb438a1eca8b793b"), looks := false }, kinds := [], alts := [], laidByText := true, laidKinds := [.data, .data, .data], laidTests := true, laidLooks := .later }
def ValSumsUptoCardSaid : Prop := Claim7.holds Tryd.pinned (.plain (OpenSpec.upto valSumsSpec)) valSumsUptoCard
end Rows
end Go.Proofs.YtgbndakiiblhmaaDoor
