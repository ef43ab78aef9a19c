/-
  DERIVED. GIVEN WITH THE SEED: THE CARDS: each row of YtbjlmmeabonbpaaDoorRows.lean that lists a variable, with what it lists TIED to the program's text (the seventh form; the later family's looks); each row that meets fmt, with fmt's text TOLD by the authors' own Lean function (tested against real Go, not proved from fmt's source: count such statements apart). THE CARD IS WHAT COUNTS. Prove the row's statement (the work); the ties are given (YtbjlmmeabonbpaaDoorTie.lean); close each card by the builder's one call (the guide's Derived/Test/ToyasCard.lean, 'card_holds'). Laid BY PROGRAM, IN A SANDBOX (cutbox-door.mjs). By AI agents, Wed Nov 11 2026. No macro, syntax, notation, axiom, sorry.
-/
import Derived.Test.YtbjlmmeabonbpaaDoorRows
import GoSem.ClaimSeven
namespace Go.Proofs.YtbjlmmeabonbpaaDoor
namespace Rows

/-- THE TIED CARD OF 'wharfingerlaw02.TopoParses'. -/
def topoParsesCard : Claim7 := { stood := { row := topoParsesRow, standIns := [], harness := (true, "8e62909151969cee79c8af58ec14c17c38428616f17c6246fcf2078d0950cb5f"), looks := false }, kinds := [], alts := [], laidByText := true, laidKinds := [.data, .pinned], laidTests := true, laidLooks := .later }
def TopoParsesCardSaid : Prop := Claim7.holds Tryd.pinned (.plain (OpenSpec.ofChange topoParsesSpec)) topoParsesCard

/-- THE TIED CARD OF 'wharfingerlaw02.TopoMatches'. -/
def topoMatchesCard : Claim7 := { stood := { row := topoMatchesRow, standIns := [], harness := (true, "8e62909151969cee79c8af58ec14c17c38428616f17c6246fcf2078d0950cb5f"), looks := false }, kinds := [], alts := [], laidByText := true, laidKinds := [.data, .pinned], laidTests := true, laidLooks := .later }
def TopoMatchesCardSaid : Prop := Claim7.holds Tryd.pinned (.plain (OpenSpec.ofChange topoMatchesSpec)) topoMatchesCard

/-- THE TIED CARD OF 'wharfingerlaw02.TopoSame'. -/
def topoSameCard : Claim7 := { stood := { row := topoSameRow, standIns := [], harness := (true, "8e62909151969cee79c8af58ec14c17c38428616f17c6246fcf2078d0950cb5f"), looks := false }, kinds := [], alts := [], laidByText := true, laidKinds := [.data, .pinned], laidTests := true, laidLooks := .later }
def TopoSameCardSaid : Prop := Claim7.holds Tryd.pinned (.plain (OpenSpec.ofChange topoSameSpec)) topoSameCard

/-- THE TIED CARD OF 'wharfingerlaw02.TopoPrints'. -/
def topoPrintsCard : Claim7 := { stood := { row := topoPrintsRow, standIns := [], harness := (true, "8e62909151969cee79c8af58ec14c17c38428616f17c6246fcf2078d0950cb5f"), looks := false }, kinds := [], alts := [], laidByText := true, laidKinds := [.data, .pinned], laidTests := true, laidLooks := .later }
def TopoPrintsCardSaid : Prop := Claim7.holds Tryd.pinned (.plain (OpenSpec.ofChange topoPrintsSpec)) topoPrintsCard

/-- THE TIED CARD OF 'wharfingerlaw02.TopoLabels'. -/
def topoLabelsCard : Claim7 := { stood := { row := topoLabelsRow, standIns := [], harness := (true, "8e62909151969cee79c8af58ec14c17c38428616f17c6246fcf2078d0950cb5f"), looks := false }, kinds := [], alts := [], laidByText := true, laidKinds := [.data, .pinned], laidTests := true, laidLooks := .later }
def TopoLabelsCardSaid : Prop := Claim7.holds Tryd.pinned (.plain (OpenSpec.ofChange topoLabelsSpec)) topoLabelsCard

/-- THE TIED CARD OF 'wharfingerlaw02.TopoBack'. -/
def topoBackCard : Claim7 := { stood := { row := topoBackRow, standIns := [], harness := (true, "8e62909151969cee79c8af58ec14c17c38428616f17c6246fcf2078d0950cb5f"), looks := false }, kinds := [], alts := [], laidByText := true, laidKinds := [.data, .pinned], laidTests := true, laidLooks := .later }
def TopoBackCardSaid : Prop := Claim7.holds Tryd.pinned (.plain (OpenSpec.ofChange topoBackSpec)) topoBackCard

/-- THE TIED CARD OF 'wharfingerlaw02.TopoNarrows'. -/
def topoNarrowsCard : Claim7 := { stood := { row := topoNarrowsRow, standIns := [], harness := (true, "8e62909151969cee79c8af58ec14c17c38428616f17c6246fcf2078d0950cb5f"), looks := false }, kinds := [], alts := [], laidByText := true, laidKinds := [.data, .pinned], laidTests := true, laidLooks := .later }
def TopoNarrowsCardSaid : Prop := Claim7.holds Tryd.pinned (.plain (OpenSpec.ofChange topoNarrowsSpec)) topoNarrowsCard

/-- THE TIED CARD OF 'wharfingerlaw02.TopoBoth'. -/
def topoBothCard : Claim7 := { stood := { row := topoBothRow, standIns := [], harness := (true, "8e62909151969cee79c8af58ec14c17c38428616f17c6246fcf2078d0950cb5f"), looks := false }, kinds := [], alts := [], laidByText := true, laidKinds := [.data, .pinned], laidTests := true, laidLooks := .later }
def TopoBothCardSaid : Prop := Claim7.holds Tryd.pinned (.plain (OpenSpec.ofChange topoBothSpec)) topoBothCard

/-- THE TIED CARD OF 'wharfingertop.TopZones'. -/
def topZonesCard : Claim7 := { stood := { row := topZonesRow, standIns := [], harness := (true, "8e62909151969cee79c8af58ec14c17c38428616f17c6246fcf2078d0950cb5f"), looks := false }, kinds := [], alts := [], laidByText := true, laidKinds := [.data, .pinned], laidTests := true, laidLooks := .later }
def TopZonesCardSaid : Prop := Claim7.holds Tryd.pinned (.plain (OpenSpec.ofChange topZonesSpec)) topZonesCard

/-- THE SECOND FORM's CARD OF 'wharfingerlaw02.TopoParses'. -/
def topoParsesUptoCard : Claim7 := { stood := { row := topoParsesUptoRow, standIns := [], harness := (true, "8e62909151969cee79c8af58ec14c17c38428616f17c6246fcf2078d0950cb5f"), looks := false }, kinds := [], alts := [], laidByText := true, laidKinds := [.data, .pinned], laidTests := true, laidLooks := .later }
def TopoParsesUptoCardSaid : Prop := Claim7.holds Tryd.pinned (.plain (OpenSpec.upto topoParsesSpec)) topoParsesUptoCard

/-- THE SECOND FORM's CARD OF 'wharfingerlaw02.TopoMatches'. -/
def topoMatchesUptoCard : Claim7 := { stood := { row := topoMatchesUptoRow, standIns := [], harness := (true, "8e62909151969cee79c8af58ec14c17c38428616f17c6246fcf2078d0950cb5f"), looks := false }, kinds := [], alts := [], laidByText := true, laidKinds := [.data, .pinned], laidTests := true, laidLooks := .later }
def TopoMatchesUptoCardSaid : Prop := Claim7.holds Tryd.pinned (.plain (OpenSpec.upto topoMatchesSpec)) topoMatchesUptoCard

/-- THE SECOND FORM's CARD OF 'wharfingerlaw02.TopoSame'. -/
def topoSameUptoCard : Claim7 := { stood := { row := topoSameUptoRow, standIns := [], harness := (true, "8e62909151969cee79c8af58ec14c17c38428616f17c6246fcf2078d0950cb5f"), looks := false }, kinds := [], alts := [], laidByText := true, laidKinds := [.data, .pinned], laidTests := true, laidLooks := .later }
def TopoSameUptoCardSaid : Prop := Claim7.holds Tryd.pinned (.plain (OpenSpec.upto topoSameSpec)) topoSameUptoCard

/-- THE SECOND FORM's CARD OF 'wharfingerlaw02.TopoPrints'. -/
def topoPrintsUptoCard : Claim7 := { stood := { row := topoPrintsUptoRow, standIns := [], harness := (true, "8e62909151969cee79c8af58ec14c17c38428616f17c6246fcf2078d0950cb5f"), looks := false }, kinds := [], alts := [], laidByText := true, laidKinds := [.data, .pinned], laidTests := true, laidLooks := .later }
def TopoPrintsUptoCardSaid : Prop := Claim7.holds Tryd.pinned (.plain (OpenSpec.upto topoPrintsSpec)) topoPrintsUptoCard

/-- THE SECOND FORM's CARD OF 'wharfingerlaw02.TopoLabels'. -/
def topoLabelsUptoCard : Claim7 := { stood := { row := topoLabelsUptoRow, standIns := [], harness := (true, "8e62909151969cee79c8af58ec14c17c38428616f17c6246fcf2078d0950cb5f"), looks := false }, kinds := [], alts := [], laidByText := true, laidKinds := [.data, .pinned], laidTests := true, laidLooks := .later }
def TopoLabelsUptoCardSaid : Prop := Claim7.holds Tryd.pinned (.plain (OpenSpec.upto topoLabelsSpec)) topoLabelsUptoCard

/-- THE SECOND FORM's CARD OF 'wharfingerlaw02.TopoBack'. -/
def topoBackUptoCard : Claim7 := { stood := { row := topoBackUptoRow, standIns := [], harness := (true, "8e62909151969cee79c8af58ec14c17c38428616f17c6246fcf2078d0950cb5f"), looks := false }, kinds := [], alts := [], laidByText := true, laidKinds := [.data, .pinned], laidTests := true, laidLooks := .later }
def TopoBackUptoCardSaid : Prop := Claim7.holds Tryd.pinned (.plain (OpenSpec.upto topoBackSpec)) topoBackUptoCard

/-- THE SECOND FORM's CARD OF 'wharfingerlaw02.TopoNarrows'. -/
def topoNarrowsUptoCard : Claim7 := { stood := { row := topoNarrowsUptoRow, standIns := [], harness := (true, "8e62909151969cee79c8af58ec14c17c38428616f17c6246fcf2078d0950cb5f"), looks := false }, kinds := [], alts := [], laidByText := true, laidKinds := [.data, .pinned], laidTests := true, laidLooks := .later }
def TopoNarrowsUptoCardSaid : Prop := Claim7.holds Tryd.pinned (.plain (OpenSpec.upto topoNarrowsSpec)) topoNarrowsUptoCard

/-- THE SECOND FORM's CARD OF 'wharfingerlaw02.TopoBoth'. -/
def topoBothUptoCard : Claim7 := { stood := { row := topoBothUptoRow, standIns := [], harness := (true, "8e62909151969cee79c8af58ec14c17c38428616f17c6246fcf2078d0950cb5f"), looks := false }, kinds := [], alts := [], laidByText := true, laidKinds := [.data, .pinned], laidTests := true, laidLooks := .later }
def TopoBothUptoCardSaid : Prop := Claim7.holds Tryd.pinned (.plain (OpenSpec.upto topoBothSpec)) topoBothUptoCard

/-- THE SECOND FORM's CARD OF 'wharfingertop.TopZones'. -/
def topZonesUptoCard : Claim7 := { stood := { row := topZonesUptoRow, standIns := [], harness := (true, "8e62909151969cee79c8af58ec14c17c38428616f17c6246fcf2078d0950cb5f"), looks := false }, kinds := [], alts := [], laidByText := true, laidKinds := [.data, .pinned], laidTests := true, laidLooks := .later }
def TopZonesUptoCardSaid : Prop := Claim7.holds Tryd.pinned (.plain (OpenSpec.upto topZonesSpec)) topZonesUptoCard
end Rows
end Go.Proofs.YtbjlmmeabonbpaaDoor
