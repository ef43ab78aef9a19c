/-
  DERIVED. GIVEN WITH THE SEED: THE CARDS: each row of YtnfmnipckcidlaaDoorRows.lean that lists a variable, with what it lists TIED to the program's text (the seventh form; the later family's looks); each row that meets fmt, with fmt's text TOLD by the authors' own Lean function (tested against real Go, not proved from fmt's source: count such statements apart). THE CARD IS WHAT COUNTS. Prove the row's statement (the work); the ties are given (YtnfmnipckcidlaaDoorTie.lean); close each card by the builder's one call (the guide's Derived/Test/ToyasCard.lean, 'card_holds'). Laid BY PROGRAM, IN A SANDBOX (cutbox-door.mjs). By AI agents, Wed Nov 11 2026. No macro, syntax, notation, axiom, sorry.
-/
import Derived.Test.YtnfmnipckcidlaaDoorRows
import GoSem.ClaimSeven
namespace Go.Proofs.YtnfmnipckcidlaaDoor
namespace Rows

/-- THE TIED CARD OF 'wharfingerlaw12.BindClaims'. -/
def bindClaimsCard : Claim7 := { stood := { row := bindClaimsRow, standIns := [], harness := (true, "b275dd01cbdcd9ec4035fd4fe8a76463c80e7e32472db8879c0e447b9182310d"), looks := false }, kinds := [], alts := [], laidByText := true, laidKinds := [.data, .data, .data], laidTests := true, laidLooks := .later }
def BindClaimsCardSaid : Prop := Claim7.holds Tryd.pinned (.plain (OpenSpec.ofChange bindClaimsSpec)) bindClaimsCard

/-- THE TIED CARD OF 'wharfingerlaw12.BindNames'. -/
def bindNamesCard : Claim7 := { stood := { row := bindNamesRow, standIns := [], harness := (true, "b275dd01cbdcd9ec4035fd4fe8a76463c80e7e32472db8879c0e447b9182310d"), looks := false }, kinds := [], alts := [], laidByText := true, laidKinds := [.data, .data, .data], laidTests := true, laidLooks := .later }
def BindNamesCardSaid : Prop := Claim7.holds Tryd.pinned (.plain (OpenSpec.ofChange bindNamesSpec)) bindNamesCard

/-- THE TIED CARD OF 'wharfingerlaw12.BindFits'. -/
def bindFitsCard : Claim7 := { stood := { row := bindFitsRow, standIns := [], harness := (true, "b275dd01cbdcd9ec4035fd4fe8a76463c80e7e32472db8879c0e447b9182310d"), looks := false }, kinds := [], alts := [], laidByText := true, laidKinds := [.data, .data, .data], laidTests := true, laidLooks := .later }
def BindFitsCardSaid : Prop := Claim7.holds Tryd.pinned (.plain (OpenSpec.ofChange bindFitsSpec)) bindFitsCard

/-- THE TIED CARD OF 'wharfingerlaw12.BindRefs'. -/
def bindRefsCard : Claim7 := { stood := { row := bindRefsRow, standIns := [], harness := (true, "b275dd01cbdcd9ec4035fd4fe8a76463c80e7e32472db8879c0e447b9182310d"), looks := false }, kinds := [], alts := [], laidByText := true, laidKinds := [.data, .data, .data], laidTests := true, laidLooks := .later }
def BindRefsCardSaid : Prop := Claim7.holds Tryd.pinned (.plain (OpenSpec.ofChange bindRefsSpec)) bindRefsCard

/-- THE TIED CARD OF 'wharfingerlaw12.BindVolumes'. -/
def bindVolumesCard : Claim7 := { stood := { row := bindVolumesRow, standIns := [], harness := (true, "b275dd01cbdcd9ec4035fd4fe8a76463c80e7e32472db8879c0e447b9182310d"), looks := false }, kinds := [], alts := [], laidByText := true, laidKinds := [.data, .data, .data], laidTests := true, laidLooks := .later }
def BindVolumesCardSaid : Prop := Claim7.holds Tryd.pinned (.plain (OpenSpec.ofChange bindVolumesSpec)) bindVolumesCard

/-- THE TIED CARD OF 'wharfingerlaw12.BindKeeps'. -/
def bindKeepsCard : Claim7 := { stood := { row := bindKeepsRow, standIns := [], harness := (true, "b275dd01cbdcd9ec4035fd4fe8a76463c80e7e32472db8879c0e447b9182310d"), looks := false }, kinds := [], alts := [], laidByText := true, laidKinds := [.data, .data, .data], laidTests := true, laidLooks := .later }
def BindKeepsCardSaid : Prop := Claim7.holds Tryd.pinned (.plain (OpenSpec.ofChange bindKeepsSpec)) bindKeepsCard

/-- THE TIED CARD OF 'wharfingerlaw12.BindRests'. -/
def bindRestsCard : Claim7 := { stood := { row := bindRestsRow, standIns := [], harness := (true, "b275dd01cbdcd9ec4035fd4fe8a76463c80e7e32472db8879c0e447b9182310d"), looks := false }, kinds := [], alts := [], laidByText := true, laidKinds := [.data, .data, .data], laidTests := true, laidLooks := .later }
def BindRestsCardSaid : Prop := Claim7.holds Tryd.pinned (.plain (OpenSpec.ofChange bindRestsSpec)) bindRestsCard

/-- THE TIED CARD OF 'wharfingerlaw12.BindRight'. -/
def bindRightCard : Claim7 := { stood := { row := bindRightRow, standIns := [], harness := (true, "b275dd01cbdcd9ec4035fd4fe8a76463c80e7e32472db8879c0e447b9182310d"), looks := false }, kinds := [], alts := [], laidByText := true, laidKinds := [.data, .data, .data], laidTests := true, laidLooks := .later }
def BindRightCardSaid : Prop := Claim7.holds Tryd.pinned (.plain (OpenSpec.ofChange bindRightSpec)) bindRightCard

/-- THE SECOND FORM's CARD OF 'wharfingerlaw12.BindClaims'. -/
def bindClaimsUptoCard : Claim7 := { stood := { row := bindClaimsUptoRow, standIns := [], harness := (true, "b275dd01cbdcd9ec4035fd4fe8a76463c80e7e32472db8879c0e447b9182310d"), looks := false }, kinds := [], alts := [], laidByText := true, laidKinds := [.data, .data, .data], laidTests := true, laidLooks := .later }
def BindClaimsUptoCardSaid : Prop := Claim7.holds Tryd.pinned (.plain (OpenSpec.upto bindClaimsSpec)) bindClaimsUptoCard

/-- THE SECOND FORM's CARD OF 'wharfingerlaw12.BindNames'. -/
def bindNamesUptoCard : Claim7 := { stood := { row := bindNamesUptoRow, standIns := [], harness := (true, "b275dd01cbdcd9ec4035fd4fe8a76463c80e7e32472db8879c0e447b9182310d"), looks := false }, kinds := [], alts := [], laidByText := true, laidKinds := [.data, .data, .data], laidTests := true, laidLooks := .later }
def BindNamesUptoCardSaid : Prop := Claim7.holds Tryd.pinned (.plain (OpenSpec.upto bindNamesSpec)) bindNamesUptoCard

/-- THE SECOND FORM's CARD OF 'wharfingerlaw12.BindFits'. -/
def bindFitsUptoCard : Claim7 := { stood := { row := bindFitsUptoRow, standIns := [], harness := (true, "b275dd01cbdcd9ec4035fd4fe8a76463c80e7e32472db8879c0e447b9182310d"), looks := false }, kinds := [], alts := [], laidByText := true, laidKinds := [.data, .data, .data], laidTests := true, laidLooks := .later }
def BindFitsUptoCardSaid : Prop := Claim7.holds Tryd.pinned (.plain (OpenSpec.upto bindFitsSpec)) bindFitsUptoCard

/-- THE SECOND FORM's CARD OF 'wharfingerlaw12.BindRefs'. -/
def bindRefsUptoCard : Claim7 := { stood := { row := bindRefsUptoRow, standIns := [], harness := (true, "b275dd01cbdcd9ec4035fd4fe8a76463c80e7e32472db8879c0e447b9182310d"), looks := false }, kinds := [], alts := [], laidByText := true, laidKinds := [.data, .data, .data], laidTests := true, laidLooks := .later }
def BindRefsUptoCardSaid : Prop := Claim7.holds Tryd.pinned (.plain (OpenSpec.upto bindRefsSpec)) bindRefsUptoCard

/-- THE SECOND FORM's CARD OF 'wharfingerlaw12.BindVolumes'. -/
def bindVolumesUptoCard : Claim7 := { stood := { row := bindVolumesUptoRow, standIns := [], harness := (true, "b275dd01cbdcd9ec4035fd4fe8a76463c80e7e32472db8879c0e447b9182310d"), looks := false }, kinds := [], alts := [], laidByText := true, laidKinds := [.data, .data, .data], laidTests := true, laidLooks := .later }
def BindVolumesUptoCardSaid : Prop := Claim7.holds Tryd.pinned (.plain (OpenSpec.upto bindVolumesSpec)) bindVolumesUptoCard

/-- THE SECOND FORM's CARD OF 'wharfingerlaw12.BindKeeps'. -/
def bindKeepsUptoCard : Claim7 := { stood := { row := bindKeepsUptoRow, standIns := [], harness := (true, "b275dd01cbdcd9ec4035fd4fe8a76463c80e7e32472db8879c0e447b9182310d"), looks := false }, kinds := [], alts := [], laidByText := true, laidKinds := [.data, .data, .data], laidTests := true, laidLooks := .later }
def BindKeepsUptoCardSaid : Prop := Claim7.holds Tryd.pinned (.plain (OpenSpec.upto bindKeepsSpec)) bindKeepsUptoCard

/-- THE SECOND FORM's CARD OF 'wharfingerlaw12.BindRests'. -/
def bindRestsUptoCard : Claim7 := { stood := { row := bindRestsUptoRow, standIns := [], harness := (true, "b275dd01cbdcd9ec4035fd4fe8a76463c80e7e32472db8879c0e447b9182310d"), looks := false }, kinds := [], alts := [], laidByText := true, laidKinds := [.data, .data, .data], laidTests := true, laidLooks := .later }
def BindRestsUptoCardSaid : Prop := Claim7.holds Tryd.pinned (.plain (OpenSpec.upto bindRestsSpec)) bindRestsUptoCard

/-- THE SECOND FORM's CARD OF 'wharfingerlaw12.BindRight'. -/
def bindRightUptoCard : Claim7 := { stood := { row := bindRightUptoRow, standIns := [], harness := (true, "b275dd01cbdcd9ec4035fd4fe8a76463c80e7e32472db8879c0e447b9182310d"), looks := false }, kinds := [], alts := [], laidByText := true, laidKinds := [.data, .data, .data], laidTests := true, laidLooks := .later }
def BindRightUptoCardSaid : Prop := Claim7.holds Tryd.pinned (.plain (OpenSpec.upto bindRightSpec)) bindRightUptoCard
end Rows
end Go.Proofs.YtnfmnipckcidlaaDoor
