/-
  No cell of these rows narrows 'for every input' (looked for: loops, veiled, ifaces, maps, wideKeys, modest, calm, conditions, laid).
  DERIVED. THE GIVEN ROWS OF THIS SEAT. 8 by the template 'for every input the law returns true; each argument reads behind the call as it read before'; 0 by the template 'total and deterministic' (their statements: YtbcnehpndoghcaaTotals.lean).
  GIVEN WITH THE SEED: the statements are not yours to turn. If you find one false, say at which input.
  Laid BY PROGRAM, IN A SANDBOX (cutbox-rows.mjs): the forced cells as the released guide's own fill.sh prints them over the translation 0467e75db63fe9ff… (all of the seat's roots in one cut). By AI agents, Wed Nov 11 2026. No macro, syntax, notation, axiom, sorry.
-/
import Derived.Test.YtbcnehpndoghcaaChecked
import GoSem.Claim
import GoSem.ClaimJoined
import GoSem.ClaimMapViews
import Derived.JoinedTies
import Derived.KernelRfl
namespace Go.Proofs.Ytbcnehpndoghcaa
/- THE CELL 'sum', in the pinned program and in every row, IS THE sha256 OF THE DUMP (.gsa) THAT YtbcnehpndoghcaaProg.lean LOADS. Nothing in Lean hashes anything: it is a label: what it is worth is what the hold of that sum in a sandbox is worth. -/
noncomputable def Try.pinned : Pinned := { name := "ytbcnehpndoghcaa", sum := "0467e75db63fe9ff9953286ea081a641aaddeae8e9006e50f64bcc18829f856b", checked := Try.checked }
namespace Rows
def none {H : Type} : Left H := { results := [], args := [] }

/-- 'wharfingerlaw13.AttachWants': WHATEVER THE INPUT: true; the input reads as it did. -/
def attachWantsSpec : ChangeSpec := { name := "attachWants", fn := fun _ => fun
  | [d1, d2] => { results := [.lit (.bool true)], args := [d1, d2] }
  | _ => none }
def attachWantsRow : OpenClaim := { program := "ytbcnehpndoghcaa", sum := "0467e75db63fe9ff9953286ea081a641aaddeae8e9006e50f64bcc18829f856b", func := "wharfinger/wharfingerlaw13.AttachWants", spec := "attachWants", inPlace := ["slices.overlaps[string]", "slices.overlaps[wharfinger/api.Object]", "internal/abi.NoEscape", "internal/bytealg.MakeNoZero"], unfollowed := true, recurses := true, plainKeys := false, apart := false }
def AttachWantsSaid : Prop := attachWantsRow.holds Try.pinned (OpenSpec.ofChange attachWantsSpec)

/-- ITS FALSE NEIGHBOUR: 'it returns false'. Refute it at one input. -/
def attachWantsWrong : ChangeSpec := { name := "attachWants", fn := fun _ => fun
  | [d1, d2] => { results := [.lit (.bool false)], args := [d1, d2] }
  | _ => none }
def AttachWantsWrongFalsely : Prop := attachWantsRow.holds Try.pinned (OpenSpec.ofChange attachWantsWrong)

/-- 'wharfingerlaw13.AttachActs': WHATEVER THE INPUT: true; the input reads as it did. -/
def attachActsSpec : ChangeSpec := { name := "attachActs", fn := fun _ => fun
  | [d1, d2, d3] => { results := [.lit (.bool true)], args := [d1, d2, d3] }
  | _ => none }
def attachActsRow : OpenClaim := { program := "ytbcnehpndoghcaa", sum := "0467e75db63fe9ff9953286ea081a641aaddeae8e9006e50f64bcc18829f856b", func := "wharfinger/wharfingerlaw13.AttachActs", spec := "attachActs", inPlace := ["slices.overlaps[string]", "slices.overlaps[wharfinger/api.Object]", "internal/abi.NoEscape", "internal/bytealg.MakeNoZero"], unfollowed := true, recurses := true, plainKeys := false, apart := false }
def AttachActsSaid : Prop := attachActsRow.holds Try.pinned (OpenSpec.ofChange attachActsSpec)

/-- ITS FALSE NEIGHBOUR: 'it returns false'. Refute it at one input. -/
def attachActsWrong : ChangeSpec := { name := "attachActs", fn := fun _ => fun
  | [d1, d2, d3] => { results := [.lit (.bool false)], args := [d1, d2, d3] }
  | _ => none }
def AttachActsWrongFalsely : Prop := attachActsRow.holds Try.pinned (OpenSpec.ofChange attachActsWrong)

/-- 'wharfingerlaw13.AttachOne': WHATEVER THE INPUT: true; the input reads as it did. -/
def attachOneSpec : ChangeSpec := { name := "attachOne", fn := fun _ => fun
  | [d1, d2, d3] => { results := [.lit (.bool true)], args := [d1, d2, d3] }
  | _ => none }
def attachOneRow : OpenClaim := { program := "ytbcnehpndoghcaa", sum := "0467e75db63fe9ff9953286ea081a641aaddeae8e9006e50f64bcc18829f856b", func := "wharfinger/wharfingerlaw13.AttachOne", spec := "attachOne", inPlace := ["slices.overlaps[string]", "slices.overlaps[wharfinger/api.Object]", "internal/abi.NoEscape", "internal/bytealg.MakeNoZero"], unfollowed := true, recurses := true, plainKeys := false, apart := false }
def AttachOneSaid : Prop := attachOneRow.holds Try.pinned (OpenSpec.ofChange attachOneSpec)

/-- ITS FALSE NEIGHBOUR: 'it returns false'. Refute it at one input. -/
def attachOneWrong : ChangeSpec := { name := "attachOne", fn := fun _ => fun
  | [d1, d2, d3] => { results := [.lit (.bool false)], args := [d1, d2, d3] }
  | _ => none }
def AttachOneWrongFalsely : Prop := attachOneRow.holds Try.pinned (OpenSpec.ofChange attachOneWrong)

/-- 'wharfingerlaw13.AttachWanted': WHATEVER THE INPUT: true; the input reads as it did. -/
def attachWantedSpec : ChangeSpec := { name := "attachWanted", fn := fun _ => fun
  | [d1, d2, d3] => { results := [.lit (.bool true)], args := [d1, d2, d3] }
  | _ => none }
def attachWantedRow : OpenClaim := { program := "ytbcnehpndoghcaa", sum := "0467e75db63fe9ff9953286ea081a641aaddeae8e9006e50f64bcc18829f856b", func := "wharfinger/wharfingerlaw13.AttachWanted", spec := "attachWanted", inPlace := ["slices.overlaps[string]", "slices.overlaps[wharfinger/api.Object]", "internal/abi.NoEscape", "internal/bytealg.MakeNoZero"], unfollowed := true, recurses := true, plainKeys := false, apart := false }
def AttachWantedSaid : Prop := attachWantedRow.holds Try.pinned (OpenSpec.ofChange attachWantedSpec)

/-- ITS FALSE NEIGHBOUR: 'it returns false'. Refute it at one input. -/
def attachWantedWrong : ChangeSpec := { name := "attachWanted", fn := fun _ => fun
  | [d1, d2, d3] => { results := [.lit (.bool false)], args := [d1, d2, d3] }
  | _ => none }
def AttachWantedWrongFalsely : Prop := attachWantedRow.holds Try.pinned (OpenSpec.ofChange attachWantedWrong)

/-- 'wharfingerlaw13.AttachRight': WHATEVER THE INPUT: true; the input reads as it did. -/
def attachRightSpec : ChangeSpec := { name := "attachRight", fn := fun _ => fun
  | [d1, d2, d3] => { results := [.lit (.bool true)], args := [d1, d2, d3] }
  | _ => none }
def attachRightRow : OpenClaim := { program := "ytbcnehpndoghcaa", sum := "0467e75db63fe9ff9953286ea081a641aaddeae8e9006e50f64bcc18829f856b", func := "wharfinger/wharfingerlaw13.AttachRight", spec := "attachRight", inPlace := ["slices.overlaps[string]", "slices.overlaps[wharfinger/api.Object]", "internal/abi.NoEscape", "internal/bytealg.MakeNoZero"], unfollowed := true, recurses := true, plainKeys := false, apart := false }
def AttachRightSaid : Prop := attachRightRow.holds Try.pinned (OpenSpec.ofChange attachRightSpec)

/-- ITS FALSE NEIGHBOUR: 'it returns false'. Refute it at one input. -/
def attachRightWrong : ChangeSpec := { name := "attachRight", fn := fun _ => fun
  | [d1, d2, d3] => { results := [.lit (.bool false)], args := [d1, d2, d3] }
  | _ => none }
def AttachRightWrongFalsely : Prop := attachRightRow.holds Try.pinned (OpenSpec.ofChange attachRightWrong)

/-- 'wharfingerlaw13.AttachRests': WHATEVER THE INPUT: true; the input reads as it did. -/
def attachRestsSpec : ChangeSpec := { name := "attachRests", fn := fun _ => fun
  | [d1, d2] => { results := [.lit (.bool true)], args := [d1, d2] }
  | _ => none }
def attachRestsRow : OpenClaim := { program := "ytbcnehpndoghcaa", sum := "0467e75db63fe9ff9953286ea081a641aaddeae8e9006e50f64bcc18829f856b", func := "wharfinger/wharfingerlaw13.AttachRests", spec := "attachRests", inPlace := ["slices.overlaps[string]", "slices.overlaps[wharfinger/api.Object]", "internal/abi.NoEscape", "internal/bytealg.MakeNoZero"], unfollowed := true, recurses := true, plainKeys := false, apart := false }
def AttachRestsSaid : Prop := attachRestsRow.holds Try.pinned (OpenSpec.ofChange attachRestsSpec)

/-- ITS FALSE NEIGHBOUR: 'it returns false'. Refute it at one input. -/
def attachRestsWrong : ChangeSpec := { name := "attachRests", fn := fun _ => fun
  | [d1, d2] => { results := [.lit (.bool false)], args := [d1, d2] }
  | _ => none }
def AttachRestsWrongFalsely : Prop := attachRestsRow.holds Try.pinned (OpenSpec.ofChange attachRestsWrong)

/-- 'wharfingerlaw13.AttachAfters': WHATEVER THE INPUT: true; the input reads as it did. -/
def attachAftersSpec : ChangeSpec := { name := "attachAfters", fn := fun _ => fun
  | [d1, d2, d3] => { results := [.lit (.bool true)], args := [d1, d2, d3] }
  | _ => none }
def attachAftersRow : OpenClaim := { program := "ytbcnehpndoghcaa", sum := "0467e75db63fe9ff9953286ea081a641aaddeae8e9006e50f64bcc18829f856b", func := "wharfinger/wharfingerlaw13.AttachAfters", spec := "attachAfters", inPlace := ["slices.overlaps[string]", "slices.overlaps[wharfinger/api.Object]", "internal/abi.NoEscape", "internal/bytealg.MakeNoZero"], unfollowed := true, recurses := true, plainKeys := false, apart := false }
def AttachAftersSaid : Prop := attachAftersRow.holds Try.pinned (OpenSpec.ofChange attachAftersSpec)

/-- ITS FALSE NEIGHBOUR: 'it returns false'. Refute it at one input. -/
def attachAftersWrong : ChangeSpec := { name := "attachAfters", fn := fun _ => fun
  | [d1, d2, d3] => { results := [.lit (.bool false)], args := [d1, d2, d3] }
  | _ => none }
def AttachAftersWrongFalsely : Prop := attachAftersRow.holds Try.pinned (OpenSpec.ofChange attachAftersWrong)

/-- 'wharfingertop.TopMoves': WHATEVER THE INPUT: true; the input reads as it did. -/
def topMovesSpec : ChangeSpec := { name := "topMoves", fn := fun _ => fun
  | [d] => { results := [.lit (.bool true)], args := [d] }
  | _ => none }
def topMovesRow : OpenClaim := { program := "ytbcnehpndoghcaa", sum := "0467e75db63fe9ff9953286ea081a641aaddeae8e9006e50f64bcc18829f856b", func := "wharfinger/wharfingertop.TopMoves", spec := "topMoves", inPlace := ["slices.overlaps[string]", "slices.overlaps[wharfinger/api.Object]", "internal/abi.NoEscape", "internal/bytealg.MakeNoZero"], unfollowed := true, recurses := true, plainKeys := false, apart := false }
def TopMovesSaid : Prop := topMovesRow.holds Try.pinned (OpenSpec.ofChange topMovesSpec)

/-- ITS FALSE NEIGHBOUR: 'it returns false'. Refute it at one input. -/
def topMovesWrong : ChangeSpec := { name := "topMoves", fn := fun _ => fun
  | [d] => { results := [.lit (.bool false)], args := [d] }
  | _ => none }
def TopMovesWrongFalsely : Prop := topMovesRow.holds Try.pinned (OpenSpec.ofChange topMovesWrong)

/- THE SECOND FORM. 'bulk': how many values and letters a reading holds, each counted each time it is reached (what is shared counts as often as it is met; a slice's spare places count too). A statement '..UptoSaid' is the law's where the arguments, and the package variables that the reading takes, are together of bulk at most 1048576: NARROWER than '..Said'. Prove '..Said' where nothing that the law and all that it calls make is longer than what came in: it says more and counts as full. Else prove '..UptoSaid'. A law counts once. -/
mutual
def uptoBulk {H : Type} : DataW H → Nat
  | .lit (.string bytes) => bytes.length + 1
  | .lit _ => 1
  | .nil => 1
  | .ptr d => uptoBulk d + 1
  | .slice elems spare => uptoBulkAll elems + uptoBulkAll spare + 1
  | .agg parts => uptoBulkAll parts + 1
  | .iface _ d => uptoBulk d + 1
  | .map entries => uptoBulkEntries entries + 1
  | .held _ => 1
def uptoBulkAll {H : Type} : List (DataW H) → Nat
  | [] => 0
  | d :: r => uptoBulk d + uptoBulkAll r
def uptoBulkEntries {H : Type} : List (Lit × DataW H) → Nat
  | [] => 0
  | x :: r => uptoBulkEntry x + uptoBulkEntries r
def uptoBulkEntry {H : Type} : Lit × DataW H → Nat
  | (.string bytes, d) => bytes.length + uptoBulk d + 1
  | (_, d) => uptoBulk d + 1
 end
def uptoSmall : (H : Type) → List (DataW H) → Bool := fun _ ds => decide (uptoBulkAll ds ≤ 1048576)
def OpenSpec.upto (s : _root_.Go.ChangeSpec) : _root_.Go.OpenSpec := { _root_.Go.OpenSpec.ofChange s with cond := some uptoSmall }

/-- 'wharfingerlaw13.AttachWants', WHERE WHAT IT READS IS OF BULK AT MOST 1048576: true; the input reads as it did. -/
def attachWantsUptoRow : OpenClaim := { program := "ytbcnehpndoghcaa", sum := "0467e75db63fe9ff9953286ea081a641aaddeae8e9006e50f64bcc18829f856b", func := "wharfinger/wharfingerlaw13.AttachWants", spec := "attachWants", inPlace := ["slices.overlaps[string]", "slices.overlaps[wharfinger/api.Object]", "internal/abi.NoEscape", "internal/bytealg.MakeNoZero"], unfollowed := true, recurses := true, plainKeys := false, apart := false, narrowed := true }
def AttachWantsUptoSaid : Prop := attachWantsUptoRow.holds Try.pinned (OpenSpec.upto attachWantsSpec)

/-- 'wharfingerlaw13.AttachActs', WHERE WHAT IT READS IS OF BULK AT MOST 1048576: true; the input reads as it did. -/
def attachActsUptoRow : OpenClaim := { program := "ytbcnehpndoghcaa", sum := "0467e75db63fe9ff9953286ea081a641aaddeae8e9006e50f64bcc18829f856b", func := "wharfinger/wharfingerlaw13.AttachActs", spec := "attachActs", inPlace := ["slices.overlaps[string]", "slices.overlaps[wharfinger/api.Object]", "internal/abi.NoEscape", "internal/bytealg.MakeNoZero"], unfollowed := true, recurses := true, plainKeys := false, apart := false, narrowed := true }
def AttachActsUptoSaid : Prop := attachActsUptoRow.holds Try.pinned (OpenSpec.upto attachActsSpec)

/-- 'wharfingerlaw13.AttachOne', WHERE WHAT IT READS IS OF BULK AT MOST 1048576: true; the input reads as it did. -/
def attachOneUptoRow : OpenClaim := { program := "ytbcnehpndoghcaa", sum := "0467e75db63fe9ff9953286ea081a641aaddeae8e9006e50f64bcc18829f856b", func := "wharfinger/wharfingerlaw13.AttachOne", spec := "attachOne", inPlace := ["slices.overlaps[string]", "slices.overlaps[wharfinger/api.Object]", "internal/abi.NoEscape", "internal/bytealg.MakeNoZero"], unfollowed := true, recurses := true, plainKeys := false, apart := false, narrowed := true }
def AttachOneUptoSaid : Prop := attachOneUptoRow.holds Try.pinned (OpenSpec.upto attachOneSpec)

/-- 'wharfingerlaw13.AttachWanted', WHERE WHAT IT READS IS OF BULK AT MOST 1048576: true; the input reads as it did. -/
def attachWantedUptoRow : OpenClaim := { program := "ytbcnehpndoghcaa", sum := "0467e75db63fe9ff9953286ea081a641aaddeae8e9006e50f64bcc18829f856b", func := "wharfinger/wharfingerlaw13.AttachWanted", spec := "attachWanted", inPlace := ["slices.overlaps[string]", "slices.overlaps[wharfinger/api.Object]", "internal/abi.NoEscape", "internal/bytealg.MakeNoZero"], unfollowed := true, recurses := true, plainKeys := false, apart := false, narrowed := true }
def AttachWantedUptoSaid : Prop := attachWantedUptoRow.holds Try.pinned (OpenSpec.upto attachWantedSpec)

/-- 'wharfingerlaw13.AttachRight', WHERE WHAT IT READS IS OF BULK AT MOST 1048576: true; the input reads as it did. -/
def attachRightUptoRow : OpenClaim := { program := "ytbcnehpndoghcaa", sum := "0467e75db63fe9ff9953286ea081a641aaddeae8e9006e50f64bcc18829f856b", func := "wharfinger/wharfingerlaw13.AttachRight", spec := "attachRight", inPlace := ["slices.overlaps[string]", "slices.overlaps[wharfinger/api.Object]", "internal/abi.NoEscape", "internal/bytealg.MakeNoZero"], unfollowed := true, recurses := true, plainKeys := false, apart := false, narrowed := true }
def AttachRightUptoSaid : Prop := attachRightUptoRow.holds Try.pinned (OpenSpec.upto attachRightSpec)

/-- 'wharfingerlaw13.AttachRests', WHERE WHAT IT READS IS OF BULK AT MOST 1048576: true; the input reads as it did. -/
def attachRestsUptoRow : OpenClaim := { program := "ytbcnehpndoghcaa", sum := "0467e75db63fe9ff9953286ea081a641aaddeae8e9006e50f64bcc18829f856b", func := "wharfinger/wharfingerlaw13.AttachRests", spec := "attachRests", inPlace := ["slices.overlaps[string]", "slices.overlaps[wharfinger/api.Object]", "internal/abi.NoEscape", "internal/bytealg.MakeNoZero"], unfollowed := true, recurses := true, plainKeys := false, apart := false, narrowed := true }
def AttachRestsUptoSaid : Prop := attachRestsUptoRow.holds Try.pinned (OpenSpec.upto attachRestsSpec)

/-- 'wharfingerlaw13.AttachAfters', WHERE WHAT IT READS IS OF BULK AT MOST 1048576: true; the input reads as it did. -/
def attachAftersUptoRow : OpenClaim := { program := "ytbcnehpndoghcaa", sum := "0467e75db63fe9ff9953286ea081a641aaddeae8e9006e50f64bcc18829f856b", func := "wharfinger/wharfingerlaw13.AttachAfters", spec := "attachAfters", inPlace := ["slices.overlaps[string]", "slices.overlaps[wharfinger/api.Object]", "internal/abi.NoEscape", "internal/bytealg.MakeNoZero"], unfollowed := true, recurses := true, plainKeys := false, apart := false, narrowed := true }
def AttachAftersUptoSaid : Prop := attachAftersUptoRow.holds Try.pinned (OpenSpec.upto attachAftersSpec)

/-- 'wharfingertop.TopMoves', WHERE WHAT IT READS IS OF BULK AT MOST 1048576: true; the input reads as it did. -/
def topMovesUptoRow : OpenClaim := { program := "ytbcnehpndoghcaa", sum := "0467e75db63fe9ff9953286ea081a641aaddeae8e9006e50f64bcc18829f856b", func := "wharfinger/wharfingertop.TopMoves", spec := "topMoves", inPlace := ["slices.overlaps[string]", "slices.overlaps[wharfinger/api.Object]", "internal/abi.NoEscape", "internal/bytealg.MakeNoZero"], unfollowed := true, recurses := true, plainKeys := false, apart := false, narrowed := true }
def TopMovesUptoSaid : Prop := topMovesUptoRow.holds Try.pinned (OpenSpec.upto topMovesSpec)

end Rows
end Go.Proofs.Ytbcnehpndoghcaa
