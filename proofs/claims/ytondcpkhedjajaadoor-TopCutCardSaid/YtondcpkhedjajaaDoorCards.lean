/-
  DERIVED. GIVEN WITH THE SEED: THE CARDS: each row of YtondcpkhedjajaaDoorRows.lean that lists a variable, with what it lists TIED to the program's text (the seventh form; the later family's looks); each row that meets fmt, with fmt's text TOLD by the authors' own Lean function (tested against real Go, not proved from fmt's source: count such statements apart). THE CARD IS WHAT COUNTS. Prove the row's statement (the work); the ties are given (YtondcpkhedjajaaDoorTie.lean); close each card by the builder's one call (the guide's Derived/Test/ToyasCard.lean, 'card_holds'). Laid BY PROGRAM, IN A SANDBOX (cutbox-door.mjs). By AI agents, Wed Nov 11 2026. No macro, syntax, notation, axiom, sorry.
-/
import Derived.Test.YtondcpkhedjajaaDoorRows
import GoSem.ClaimSeven
namespace Go.Proofs.YtondcpkhedjajaaDoor
namespace Rows

/-- THE TIED CARD OF 'wharfingerlaw14.DataClaims'. -/
def dataClaimsCard : Claim7 := { stood := { row := dataClaimsRow, standIns := [], harness := (true, "a94d51ceca1538aeb26282c606e8bc6260be2889868d0e578cf0a24b53ec290f"), looks := false }, kinds := [], alts := [], laidByText := true, laidKinds := [.data, .data, .data], laidTests := true, laidLooks := .later }
def DataClaimsCardSaid : Prop := Claim7.holds Tryd.pinned (.plain (OpenSpec.ofChange dataClaimsSpec)) dataClaimsCard

/-- THE TIED CARD OF 'wharfingerlaw14.DataSnapshots'. -/
def dataSnapshotsCard : Claim7 := { stood := { row := dataSnapshotsRow, standIns := [], harness := (true, "a94d51ceca1538aeb26282c606e8bc6260be2889868d0e578cf0a24b53ec290f"), looks := false }, kinds := [], alts := [], laidByText := true, laidKinds := [.data, .data, .data], laidTests := true, laidLooks := .later }
def DataSnapshotsCardSaid : Prop := Claim7.holds Tryd.pinned (.plain (OpenSpec.ofChange dataSnapshotsSpec)) dataSnapshotsCard

/-- THE TIED CARD OF 'wharfingerlaw14.DataGrows'. -/
def dataGrowsCard : Claim7 := { stood := { row := dataGrowsRow, standIns := [], harness := (true, "a94d51ceca1538aeb26282c606e8bc6260be2889868d0e578cf0a24b53ec290f"), looks := false }, kinds := [], alts := [], laidByText := true, laidKinds := [.data, .data, .data], laidTests := true, laidLooks := .later }
def DataGrowsCardSaid : Prop := Claim7.holds Tryd.pinned (.plain (OpenSpec.ofChange dataGrowsSpec)) dataGrowsCard

/-- THE TIED CARD OF 'wharfingerlaw14.DataRight'. -/
def dataRightCard : Claim7 := { stood := { row := dataRightRow, standIns := [], harness := (true, "a94d51ceca1538aeb26282c606e8bc6260be2889868d0e578cf0a24b53ec290f"), looks := false }, kinds := [], alts := [], laidByText := true, laidKinds := [.data, .data, .data], laidTests := true, laidLooks := .later }
def DataRightCardSaid : Prop := Claim7.holds Tryd.pinned (.plain (OpenSpec.ofChange dataRightSpec)) dataRightCard

/-- THE TIED CARD OF 'wharfingerlaw14.DataWaits'. -/
def dataWaitsCard : Claim7 := { stood := { row := dataWaitsRow, standIns := [], harness := (true, "a94d51ceca1538aeb26282c606e8bc6260be2889868d0e578cf0a24b53ec290f"), looks := false }, kinds := [], alts := [], laidByText := true, laidKinds := [.data, .data, .data], laidTests := true, laidLooks := .later }
def DataWaitsCardSaid : Prop := Claim7.holds Tryd.pinned (.plain (OpenSpec.ofChange dataWaitsSpec)) dataWaitsCard

/-- THE TIED CARD OF 'wharfingerlaw14.DataHandles'. -/
def dataHandlesCard : Claim7 := { stood := { row := dataHandlesRow, standIns := [], harness := (true, "a94d51ceca1538aeb26282c606e8bc6260be2889868d0e578cf0a24b53ec290f"), looks := false }, kinds := [], alts := [], laidByText := true, laidKinds := [.data, .data, .data], laidTests := true, laidLooks := .later }
def DataHandlesCardSaid : Prop := Claim7.holds Tryd.pinned (.plain (OpenSpec.ofChange dataHandlesSpec)) dataHandlesCard

/-- THE TIED CARD OF 'wharfingerlaw14.DataAfters'. -/
def dataAftersCard : Claim7 := { stood := { row := dataAftersRow, standIns := [], harness := (true, "a94d51ceca1538aeb26282c606e8bc6260be2889868d0e578cf0a24b53ec290f"), looks := false }, kinds := [], alts := [], laidByText := true, laidKinds := [.data, .data, .data], laidTests := true, laidLooks := .later }
def DataAftersCardSaid : Prop := Claim7.holds Tryd.pinned (.plain (OpenSpec.ofChange dataAftersSpec)) dataAftersCard

/-- THE TIED CARD OF 'wharfingerlaw14.DataStep'. -/
def dataStepCard : Claim7 := { stood := { row := dataStepRow, standIns := [], harness := (true, "a94d51ceca1538aeb26282c606e8bc6260be2889868d0e578cf0a24b53ec290f"), looks := false }, kinds := [], alts := [], laidByText := true, laidKinds := [.data, .data, .data], laidTests := true, laidLooks := .later }
def DataStepCardSaid : Prop := Claim7.holds Tryd.pinned (.plain (OpenSpec.ofChange dataStepSpec)) dataStepCard

/-- THE TIED CARD OF 'wharfingertop.TopCut'. -/
def topCutCard : Claim7 := { stood := { row := topCutRow, standIns := [], harness := (true, "a94d51ceca1538aeb26282c606e8bc6260be2889868d0e578cf0a24b53ec290f"), looks := false }, kinds := [], alts := [], laidByText := true, laidKinds := [.data, .data, .data], laidTests := true, laidLooks := .later }
def TopCutCardSaid : Prop := Claim7.holds Tryd.pinned (.plain (OpenSpec.ofChange topCutSpec)) topCutCard

/-- THE SECOND FORM's CARD OF 'wharfingerlaw14.DataClaims'. -/
def dataClaimsUptoCard : Claim7 := { stood := { row := dataClaimsUptoRow, standIns := [], harness := (true, "a94d51ceca1538aeb26282c606e8bc6260be2889868d0e578cf0a24b53ec290f"), looks := false }, kinds := [], alts := [], laidByText := true, laidKinds := [.data, .data, .data], laidTests := true, laidLooks := .later }
def DataClaimsUptoCardSaid : Prop := Claim7.holds Tryd.pinned (.plain (OpenSpec.upto dataClaimsSpec)) dataClaimsUptoCard

/-- THE SECOND FORM's CARD OF 'wharfingerlaw14.DataSnapshots'. -/
def dataSnapshotsUptoCard : Claim7 := { stood := { row := dataSnapshotsUptoRow, standIns := [], harness := (true, "a94d51ceca1538aeb26282c606e8bc6260be2889868d0e578cf0a24b53ec290f"), looks := false }, kinds := [], alts := [], laidByText := true, laidKinds := [.data, .data, .data], laidTests := true, laidLooks := .later }
def DataSnapshotsUptoCardSaid : Prop := Claim7.holds Tryd.pinned (.plain (OpenSpec.upto dataSnapshotsSpec)) dataSnapshotsUptoCard

/-- THE SECOND FORM's CARD OF 'wharfingerlaw14.DataGrows'. -/
def dataGrowsUptoCard : Claim7 := { stood := { row := dataGrowsUptoRow, standIns := [], harness := (true, "a94d51ceca1538aeb26282c606e8bc6260be2889868d0e578cf0a24b53ec290f"), looks := false }, kinds := [], alts := [], laidByText := true, laidKinds := [.data, .data, .data], laidTests := true, laidLooks := .later }
def DataGrowsUptoCardSaid : Prop := Claim7.holds Tryd.pinned (.plain (OpenSpec.upto dataGrowsSpec)) dataGrowsUptoCard

/-- THE SECOND FORM's CARD OF 'wharfingerlaw14.DataRight'. -/
def dataRightUptoCard : Claim7 := { stood := { row := dataRightUptoRow, standIns := [], harness := (true, "a94d51ceca1538aeb26282c606e8bc6260be2889868d0e578cf0a24b53ec290f"), looks := false }, kinds := [], alts := [], laidByText := true, laidKinds := [.data, .data, .data], laidTests := true, laidLooks := .later }
def DataRightUptoCardSaid : Prop := Claim7.holds Tryd.pinned (.plain (OpenSpec.upto dataRightSpec)) dataRightUptoCard

/-- THE SECOND FORM's CARD OF 'wharfingerlaw14.DataWaits'. -/
def dataWaitsUptoCard : Claim7 := { stood := { row := dataWaitsUptoRow, standIns := [], harness := (true, "a94d51ceca1538aeb26282c606e8bc6260be2889868d0e578cf0a24b53ec290f"), looks := false }, kinds := [], alts := [], laidByText := true, laidKinds := [.data, .data, .data], laidTests := true, laidLooks := .later }
def DataWaitsUptoCardSaid : Prop := Claim7.holds Tryd.pinned (.plain (OpenSpec.upto dataWaitsSpec)) dataWaitsUptoCard

/-- THE SECOND FORM's CARD OF 'wharfingerlaw14.DataHandles'. -/
def dataHandlesUptoCard : Claim7 := { stood := { row := dataHandlesUptoRow, standIns := [], harness := (true, "a94d51ceca1538aeb26282c606e8bc6260be2889868d0e578cf0a24b53ec290f"), looks := false }, kinds := [], alts := [], laidByText := true, laidKinds := [.data, .data, .data], laidTests := true, laidLooks := .later }
def DataHandlesUptoCardSaid : Prop := Claim7.holds Tryd.pinned (.plain (OpenSpec.upto dataHandlesSpec)) dataHandlesUptoCard

/-- THE SECOND FORM's CARD OF 'wharfingerlaw14.DataAfters'. -/
def dataAftersUptoCard : Claim7 := { stood := { row := dataAftersUptoRow, standIns := [], harness := (true, "a94d51ceca1538aeb26282c606e8bc6260be2889868d0e578cf0a24b53ec290f"), looks := false }, kinds := [], alts := [], laidByText := true, laidKinds := [.data, .data, .data], laidTests := true, laidLooks := .later }
def DataAftersUptoCardSaid : Prop := Claim7.holds Tryd.pinned (.plain (OpenSpec.upto dataAftersSpec)) dataAftersUptoCard

/-- THE SECOND FORM's CARD OF 'wharfingerlaw14.DataStep'. -/
def dataStepUptoCard : Claim7 := { stood := { row := dataStepUptoRow, standIns := [], harness := (true, "a94d51ceca1538aeb26282c606e8bc6260be2889868d0e578cf0a24b53ec290f"), looks := false }, kinds := [], alts := [], laidByText := true, laidKinds := [.data, .data, .data], laidTests := true, laidLooks := .later }
def DataStepUptoCardSaid : Prop := Claim7.holds Tryd.pinned (.plain (OpenSpec.upto dataStepSpec)) dataStepUptoCard

/-- THE SECOND FORM's CARD OF 'wharfingertop.TopCut'. -/
def topCutUptoCard : Claim7 := { stood := { row := topCutUptoRow, standIns := [], harness := (true, "a94d51ceca1538aeb26282c606e8bc6260be2889868d0e578cf0a24b53ec290f"), looks := false }, kinds := [], alts := [], laidByText := true, laidKinds := [.data, .data, .data], laidTests := true, laidLooks := .later }
def TopCutUptoCardSaid : Prop := Claim7.holds Tryd.pinned (.plain (OpenSpec.upto topCutSpec)) topCutUptoCard
end Rows
end Go.Proofs.YtondcpkhedjajaaDoor
