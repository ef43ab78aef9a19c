/-
  DERIVED. GIVEN WITH THE SEED: THE CARDS: each row of YtkledlcmhbjadaaGreatDoorRows.lean that lists a variable, with what it lists TIED to the program's text (the seventh form; the later family's looks); each row that meets fmt, with fmt's text TOLD by the authors' own Lean function (tested against real Go, not proved from fmt's source: count such statements apart). THE CARD IS WHAT COUNTS. Prove the row's statement (the work); the ties are given (YtkledlcmhbjadaaGreatDoorTie.lean); close each card by the builder's one call (the guide's Derived/Test/ToyasCard.lean, 'card_holds'). Laid BY PROGRAM, IN A SANDBOX (cutbox-door.mjs). By AI agents, Wed Nov 11 2026. No macro, syntax, notation, axiom, sorry.
-/
import Derived.Test.YtkledlcmhbjadaaGreatDoorRows
import GoSem.ClaimSeven
namespace Go.Proofs.YtkledlcmhbjadaaGreatDoor
namespace Rows

/-- THE TIED CARD OF 'wharfingertop.TopMakes'. -/
def topMakesCard : Claim7 := { stood := { row := topMakesRow, standIns := [], harness := (true, "5ade48563947ca16fd0de1c3ab6b0ea0a715101f51bde52c0f52a138a15a64ca"), looks := false }, kinds := [], alts := [], laidByText := true, laidKinds := [.data, .data, .data], laidTests := true, laidLooks := .later }
def TopMakesCardSaid : Prop := Claim7.holds Tryz.pinned (.plain (OpenSpec.ofChange topMakesSpec)) topMakesCard

/-- THE TIED CARD OF 'wharfingertop.TopGives'. -/
def topGivesCard : Claim7 := { stood := { row := topGivesRow, standIns := [], harness := (true, "5ade48563947ca16fd0de1c3ab6b0ea0a715101f51bde52c0f52a138a15a64ca"), looks := false }, kinds := [], alts := [], laidByText := true, laidKinds := [.data, .data, .data], laidTests := true, laidLooks := .later }
def TopGivesCardSaid : Prop := Claim7.holds Tryz.pinned (.plain (OpenSpec.ofChange topGivesSpec)) topGivesCard

/-- THE SECOND FORM's CARD OF 'wharfingertop.TopMakes'. -/
def topMakesUptoCard : Claim7 := { stood := { row := topMakesUptoRow, standIns := [], harness := (true, "5ade48563947ca16fd0de1c3ab6b0ea0a715101f51bde52c0f52a138a15a64ca"), looks := false }, kinds := [], alts := [], laidByText := true, laidKinds := [.data, .data, .data], laidTests := true, laidLooks := .later }
def TopMakesUptoCardSaid : Prop := Claim7.holds Tryz.pinned (.plain (OpenSpec.upto topMakesSpec)) topMakesUptoCard

/-- THE SECOND FORM's CARD OF 'wharfingertop.TopGives'. -/
def topGivesUptoCard : Claim7 := { stood := { row := topGivesUptoRow, standIns := [], harness := (true, "5ade48563947ca16fd0de1c3ab6b0ea0a715101f51bde52c0f52a138a15a64ca"), looks := false }, kinds := [], alts := [], laidByText := true, laidKinds := [.data, .data, .data], laidTests := true, laidLooks := .later }
def TopGivesUptoCardSaid : Prop := Claim7.holds Tryz.pinned (.plain (OpenSpec.upto topGivesSpec)) topGivesUptoCard
end Rows
end Go.Proofs.YtkledlcmhbjadaaGreatDoor
