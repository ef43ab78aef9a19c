/-
  NARROWER THAN 'FOR EVERY INPUT', by the rows' own cells (each row's printed sentence says how): TopoParses: laid · TopoMatches: laid · TopoSame: laid · TopoPrints: laid · TopoLabels: laid · TopoBack: laid · TopoNarrows: laid · TopoBoth: laid · TopZones: laid.
  DERIVED. THE GIVEN ROWS OF THIS SEAT. 9 by the template 'for every input the law returns true; each argument reads behind the call as it read before'; 0 by the template 'total and deterministic' (their statements: YtbjlmmeabonbpaaDoorTotals.lean).
  GIVEN WITH THE SEED: the statements are not yours to turn. If you find one false, say at which input.
  Laid BY PROGRAM, IN A SANDBOX (cutbox-rows.mjs): the forced cells as the released guide's own fill.sh prints them over the translation ef4f84f15b2e6fe6… (all of the seat's roots in one cut). By AI agents, Wed Nov 11 2026. No macro, syntax, notation, axiom, sorry.
-/
import Derived.Test.YtbjlmmeabonbpaaDoorChecked
import GoSem.PinnedTables
import GoSem.Claim
import GoSem.ClaimJoined
import GoSem.ClaimMapViews
import Derived.JoinedTies
import Derived.KernelRfl
namespace Go.Proofs.YtbjlmmeabonbpaaDoor
/- THE CELL 'sum', in the pinned program and in every row, IS THE sha256 OF THE DUMP (.gsa) THAT YtbjlmmeabonbpaaDoorProg.lean LOADS. Nothing in Lean hashes anything: it is a label: what it is worth is what the hold of that sum in a sandbox is worth. -/
noncomputable def Tryd.pinned : Pinned := { name := "ytbjlmmeabonbpaadoor", sum := "ef4f84f15b2e6fe68e90025a1d25dc0d2d655dd0754dbb1f2e495635413ae4cf", checked := Tryd.checked }
namespace Rows
def none {H : Type} : Left H := { results := [], args := [] }

/- WHAT THE LISTED PACKAGE-LEVEL VARIABLES READ AS WHEN THE CALL BEGINS. Each datum BY PROGRAM (the guide's laid-datum.mjs) off the statement by which the dump's own 'gosem.cut.vars' lays the variable. In a bare row this is a premise. The card (YtbjlmmeabonbpaaDoorCards.lean) ties it to the program's text. -/
def laid_unicode_utf8_acceptRanges {H : Type} : DataW H := .agg [.agg [.lit (.int .u8 128), .lit (.int .u8 191)], .agg [.lit (.int .u8 160), .lit (.int .u8 191)], .agg [.lit (.int .u8 128), .lit (.int .u8 159)], .agg [.lit (.int .u8 144), .lit (.int .u8 191)], .agg [.lit (.int .u8 128), .lit (.int .u8 143)], .agg [.lit (.int .u8 0), .lit (.int .u8 0)], .agg [.lit (.int .u8 0), .lit (.int .u8 0)], .agg [.lit (.int .u8 0), .lit (.int .u8 0)], .agg [.lit (.int .u8 0), .lit (.int .u8 0)], .agg [.lit (.int .u8 0), .lit (.int .u8 0)], .agg [.lit (.int .u8 0), .lit (.int .u8 0)], .agg [.lit (.int .u8 0), .lit (.int .u8 0)], .agg [.lit (.int .u8 0), .lit (.int .u8 0)], .agg [.lit (.int .u8 0), .lit (.int .u8 0)], .agg [.lit (.int .u8 0), .lit (.int .u8 0)], .agg [.lit (.int .u8 0), .lit (.int .u8 0)]]
/-- One of Go's own tables, pinned by name: the form's constant. -/
def laid_unicode_utf8_first : DataW Unit := Go.Pinned.utf8First

/-- 'wharfingerlaw02.TopoParses': WHATEVER THE INPUT: true; the input reads as it did. -/
def topoParsesSpec : ChangeSpec := { name := "topoParses", fn := fun _ => fun
  | [d] => { results := [.lit (.bool true)], args := [d] }
  | _ => none }
def topoParsesRow : OpenClaim := { program := "ytbjlmmeabonbpaadoor", sum := "ef4f84f15b2e6fe68e90025a1d25dc0d2d655dd0754dbb1f2e495635413ae4cf", func := "wharfinger/wharfingerlaw02.TopoParses", spec := "topoParses", inPlace := ["internal/bytealg.IndexByteString", "internal/bytealg.IndexString", "internal/bytealg.CountString"], unfollowed := true, recurses := true, named := ["internal/bytealg.MaxLen", "unicode/utf8.first", "unicode/utf8.acceptRanges"], apart := false, laid := [("unicode/utf8.acceptRanges", laid_unicode_utf8_acceptRanges), ("unicode/utf8.first", laid_unicode_utf8_first)] }
def TopoParsesSaid : Prop := topoParsesRow.holds Tryd.pinned (OpenSpec.ofChange topoParsesSpec)

/-- ITS FALSE NEIGHBOUR: 'it returns false'. Refute it at one input. -/
def topoParsesWrong : ChangeSpec := { name := "topoParses", fn := fun _ => fun
  | [d] => { results := [.lit (.bool false)], args := [d] }
  | _ => none }
def TopoParsesWrongFalsely : Prop := topoParsesRow.holds Tryd.pinned (OpenSpec.ofChange topoParsesWrong)

/-- 'wharfingerlaw02.TopoMatches': WHATEVER THE INPUT: true; the input reads as it did. -/
def topoMatchesSpec : ChangeSpec := { name := "topoMatches", fn := fun _ => fun
  | [d1, d2] => { results := [.lit (.bool true)], args := [d1, d2] }
  | _ => none }
def topoMatchesRow : OpenClaim := { program := "ytbjlmmeabonbpaadoor", sum := "ef4f84f15b2e6fe68e90025a1d25dc0d2d655dd0754dbb1f2e495635413ae4cf", func := "wharfinger/wharfingerlaw02.TopoMatches", spec := "topoMatches", inPlace := ["internal/bytealg.IndexByteString", "internal/bytealg.IndexString", "internal/bytealg.CountString"], unfollowed := true, recurses := true, named := ["internal/bytealg.MaxLen", "unicode/utf8.first", "unicode/utf8.acceptRanges"], apart := false, laid := [("unicode/utf8.acceptRanges", laid_unicode_utf8_acceptRanges), ("unicode/utf8.first", laid_unicode_utf8_first)] }
def TopoMatchesSaid : Prop := topoMatchesRow.holds Tryd.pinned (OpenSpec.ofChange topoMatchesSpec)

/-- ITS FALSE NEIGHBOUR: 'it returns false'. Refute it at one input. -/
def topoMatchesWrong : ChangeSpec := { name := "topoMatches", fn := fun _ => fun
  | [d1, d2] => { results := [.lit (.bool false)], args := [d1, d2] }
  | _ => none }
def TopoMatchesWrongFalsely : Prop := topoMatchesRow.holds Tryd.pinned (OpenSpec.ofChange topoMatchesWrong)

/-- 'wharfingerlaw02.TopoSame': WHATEVER THE INPUT: true; the input reads as it did. -/
def topoSameSpec : ChangeSpec := { name := "topoSame", fn := fun _ => fun
  | [d1, d2] => { results := [.lit (.bool true)], args := [d1, d2] }
  | _ => none }
def topoSameRow : OpenClaim := { program := "ytbjlmmeabonbpaadoor", sum := "ef4f84f15b2e6fe68e90025a1d25dc0d2d655dd0754dbb1f2e495635413ae4cf", func := "wharfinger/wharfingerlaw02.TopoSame", spec := "topoSame", inPlace := ["internal/bytealg.IndexByteString", "internal/bytealg.IndexString", "internal/bytealg.CountString"], unfollowed := true, recurses := true, named := ["internal/bytealg.MaxLen", "unicode/utf8.first", "unicode/utf8.acceptRanges"], apart := false, laid := [("unicode/utf8.acceptRanges", laid_unicode_utf8_acceptRanges), ("unicode/utf8.first", laid_unicode_utf8_first)] }
def TopoSameSaid : Prop := topoSameRow.holds Tryd.pinned (OpenSpec.ofChange topoSameSpec)

/-- ITS FALSE NEIGHBOUR: 'it returns false'. Refute it at one input. -/
def topoSameWrong : ChangeSpec := { name := "topoSame", fn := fun _ => fun
  | [d1, d2] => { results := [.lit (.bool false)], args := [d1, d2] }
  | _ => none }
def TopoSameWrongFalsely : Prop := topoSameRow.holds Tryd.pinned (OpenSpec.ofChange topoSameWrong)

/-- 'wharfingerlaw02.TopoPrints': WHATEVER THE INPUT: true; the input reads as it did. -/
def topoPrintsSpec : ChangeSpec := { name := "topoPrints", fn := fun _ => fun
  | [d1, d2] => { results := [.lit (.bool true)], args := [d1, d2] }
  | _ => none }
def topoPrintsRow : OpenClaim := { program := "ytbjlmmeabonbpaadoor", sum := "ef4f84f15b2e6fe68e90025a1d25dc0d2d655dd0754dbb1f2e495635413ae4cf", func := "wharfinger/wharfingerlaw02.TopoPrints", spec := "topoPrints", inPlace := ["internal/bytealg.IndexByteString", "internal/bytealg.IndexString", "internal/bytealg.CountString", "internal/abi.NoEscape", "internal/bytealg.MakeNoZero"], unfollowed := true, recurses := true, named := ["internal/bytealg.MaxLen", "unicode/utf8.first", "unicode/utf8.acceptRanges"], apart := false, laid := [("unicode/utf8.acceptRanges", laid_unicode_utf8_acceptRanges), ("unicode/utf8.first", laid_unicode_utf8_first)] }
def TopoPrintsSaid : Prop := topoPrintsRow.holds Tryd.pinned (OpenSpec.ofChange topoPrintsSpec)

/-- ITS FALSE NEIGHBOUR: 'it returns false'. Refute it at one input. -/
def topoPrintsWrong : ChangeSpec := { name := "topoPrints", fn := fun _ => fun
  | [d1, d2] => { results := [.lit (.bool false)], args := [d1, d2] }
  | _ => none }
def TopoPrintsWrongFalsely : Prop := topoPrintsRow.holds Tryd.pinned (OpenSpec.ofChange topoPrintsWrong)

/-- 'wharfingerlaw02.TopoLabels': WHATEVER THE INPUT: true; the input reads as it did. -/
def topoLabelsSpec : ChangeSpec := { name := "topoLabels", fn := fun _ => fun
  | [d] => { results := [.lit (.bool true)], args := [d] }
  | _ => none }
def topoLabelsRow : OpenClaim := { program := "ytbjlmmeabonbpaadoor", sum := "ef4f84f15b2e6fe68e90025a1d25dc0d2d655dd0754dbb1f2e495635413ae4cf", func := "wharfinger/wharfingerlaw02.TopoLabels", spec := "topoLabels", inPlace := ["internal/bytealg.IndexByteString", "internal/bytealg.IndexString", "internal/bytealg.CountString", "internal/abi.NoEscape", "internal/bytealg.MakeNoZero"], unfollowed := true, recurses := true, named := ["internal/bytealg.MaxLen", "unicode/utf8.first", "unicode/utf8.acceptRanges"], apart := false, laid := [("unicode/utf8.acceptRanges", laid_unicode_utf8_acceptRanges), ("unicode/utf8.first", laid_unicode_utf8_first)] }
def TopoLabelsSaid : Prop := topoLabelsRow.holds Tryd.pinned (OpenSpec.ofChange topoLabelsSpec)

/-- ITS FALSE NEIGHBOUR: 'it returns false'. Refute it at one input. -/
def topoLabelsWrong : ChangeSpec := { name := "topoLabels", fn := fun _ => fun
  | [d] => { results := [.lit (.bool false)], args := [d] }
  | _ => none }
def TopoLabelsWrongFalsely : Prop := topoLabelsRow.holds Tryd.pinned (OpenSpec.ofChange topoLabelsWrong)

/-- 'wharfingerlaw02.TopoBack': WHATEVER THE INPUT: true; the input reads as it did. -/
def topoBackSpec : ChangeSpec := { name := "topoBack", fn := fun _ => fun
  | [d1, d2] => { results := [.lit (.bool true)], args := [d1, d2] }
  | _ => none }
def topoBackRow : OpenClaim := { program := "ytbjlmmeabonbpaadoor", sum := "ef4f84f15b2e6fe68e90025a1d25dc0d2d655dd0754dbb1f2e495635413ae4cf", func := "wharfinger/wharfingerlaw02.TopoBack", spec := "topoBack", inPlace := ["internal/bytealg.IndexByteString", "internal/bytealg.IndexString", "internal/bytealg.CountString", "internal/abi.NoEscape", "internal/bytealg.MakeNoZero"], unfollowed := true, recurses := true, named := ["internal/bytealg.MaxLen", "unicode/utf8.first", "unicode/utf8.acceptRanges"], apart := false, laid := [("unicode/utf8.acceptRanges", laid_unicode_utf8_acceptRanges), ("unicode/utf8.first", laid_unicode_utf8_first)] }
def TopoBackSaid : Prop := topoBackRow.holds Tryd.pinned (OpenSpec.ofChange topoBackSpec)

/-- ITS FALSE NEIGHBOUR: 'it returns false'. Refute it at one input. -/
def topoBackWrong : ChangeSpec := { name := "topoBack", fn := fun _ => fun
  | [d1, d2] => { results := [.lit (.bool false)], args := [d1, d2] }
  | _ => none }
def TopoBackWrongFalsely : Prop := topoBackRow.holds Tryd.pinned (OpenSpec.ofChange topoBackWrong)

/-- 'wharfingerlaw02.TopoNarrows': WHATEVER THE INPUT: true; the input reads as it did. -/
def topoNarrowsSpec : ChangeSpec := { name := "topoNarrows", fn := fun _ => fun
  | [d1, d2] => { results := [.lit (.bool true)], args := [d1, d2] }
  | _ => none }
def topoNarrowsRow : OpenClaim := { program := "ytbjlmmeabonbpaadoor", sum := "ef4f84f15b2e6fe68e90025a1d25dc0d2d655dd0754dbb1f2e495635413ae4cf", func := "wharfinger/wharfingerlaw02.TopoNarrows", spec := "topoNarrows", inPlace := ["internal/bytealg.IndexByteString", "internal/bytealg.IndexString", "internal/bytealg.CountString"], unfollowed := true, recurses := true, named := ["internal/bytealg.MaxLen", "unicode/utf8.first", "unicode/utf8.acceptRanges"], apart := false, laid := [("unicode/utf8.acceptRanges", laid_unicode_utf8_acceptRanges), ("unicode/utf8.first", laid_unicode_utf8_first)] }
def TopoNarrowsSaid : Prop := topoNarrowsRow.holds Tryd.pinned (OpenSpec.ofChange topoNarrowsSpec)

/-- ITS FALSE NEIGHBOUR: 'it returns false'. Refute it at one input. -/
def topoNarrowsWrong : ChangeSpec := { name := "topoNarrows", fn := fun _ => fun
  | [d1, d2] => { results := [.lit (.bool false)], args := [d1, d2] }
  | _ => none }
def TopoNarrowsWrongFalsely : Prop := topoNarrowsRow.holds Tryd.pinned (OpenSpec.ofChange topoNarrowsWrong)

/-- 'wharfingerlaw02.TopoBoth': WHATEVER THE INPUT: true; the input reads as it did. -/
def topoBothSpec : ChangeSpec := { name := "topoBoth", fn := fun _ => fun
  | [d1, d2, d3] => { results := [.lit (.bool true)], args := [d1, d2, d3] }
  | _ => none }
def topoBothRow : OpenClaim := { program := "ytbjlmmeabonbpaadoor", sum := "ef4f84f15b2e6fe68e90025a1d25dc0d2d655dd0754dbb1f2e495635413ae4cf", func := "wharfinger/wharfingerlaw02.TopoBoth", spec := "topoBoth", inPlace := ["internal/bytealg.IndexByteString", "internal/bytealg.IndexString", "internal/bytealg.CountString", "internal/abi.NoEscape", "internal/bytealg.MakeNoZero"], unfollowed := true, recurses := true, named := ["internal/bytealg.MaxLen", "unicode/utf8.first", "unicode/utf8.acceptRanges"], apart := false, laid := [("unicode/utf8.acceptRanges", laid_unicode_utf8_acceptRanges), ("unicode/utf8.first", laid_unicode_utf8_first)] }
def TopoBothSaid : Prop := topoBothRow.holds Tryd.pinned (OpenSpec.ofChange topoBothSpec)

/-- ITS FALSE NEIGHBOUR: 'it returns false'. Refute it at one input. -/
def topoBothWrong : ChangeSpec := { name := "topoBoth", fn := fun _ => fun
  | [d1, d2, d3] => { results := [.lit (.bool false)], args := [d1, d2, d3] }
  | _ => none }
def TopoBothWrongFalsely : Prop := topoBothRow.holds Tryd.pinned (OpenSpec.ofChange topoBothWrong)

/-- 'wharfingertop.TopZones': WHATEVER THE INPUT: true; the input reads as it did. -/
def topZonesSpec : ChangeSpec := { name := "topZones", fn := fun _ => fun
  | [d1, d2] => { results := [.lit (.bool true)], args := [d1, d2] }
  | _ => none }
def topZonesRow : OpenClaim := { program := "ytbjlmmeabonbpaadoor", sum := "ef4f84f15b2e6fe68e90025a1d25dc0d2d655dd0754dbb1f2e495635413ae4cf", func := "wharfinger/wharfingertop.TopZones", spec := "topZones", inPlace := ["internal/bytealg.IndexByteString", "internal/bytealg.IndexString", "internal/bytealg.CountString"], unfollowed := true, recurses := true, named := ["internal/bytealg.MaxLen", "unicode/utf8.first", "unicode/utf8.acceptRanges"], apart := false, laid := [("unicode/utf8.acceptRanges", laid_unicode_utf8_acceptRanges), ("unicode/utf8.first", laid_unicode_utf8_first)] }
def TopZonesSaid : Prop := topZonesRow.holds Tryd.pinned (OpenSpec.ofChange topZonesSpec)

/-- ITS FALSE NEIGHBOUR: 'it returns false'. Refute it at one input. -/
def topZonesWrong : ChangeSpec := { name := "topZones", fn := fun _ => fun
  | [d1, d2] => { results := [.lit (.bool false)], args := [d1, d2] }
  | _ => none }
def TopZonesWrongFalsely : Prop := topZonesRow.holds Tryd.pinned (OpenSpec.ofChange topZonesWrong)

/- THE SECOND FORM. 'bulk': how many values and letters a reading holds, each counted each time it is reached (what is shared counts as often as it is met; a slice's spare places count too). A statement '..UptoSaid' is the law's where the arguments, and the package variables that the reading takes, are together of bulk at most 1048576: NARROWER than '..Said'. Prove '..Said' where nothing that the law and all that it calls make is longer than what came in: it says more and counts as full. Else prove '..UptoSaid'. A law counts once. -/
mutual
def uptoBulk {H : Type} : DataW H → Nat
  | .lit (.string bytes) => bytes.length + 1
  | .lit _ => 1
  | .nil => 1
  | .ptr d => uptoBulk d + 1
  | .slice elems spare => uptoBulkAll elems + uptoBulkAll spare + 1
  | .agg parts => uptoBulkAll parts + 1
  | .iface _ d => uptoBulk d + 1
  | .map entries => uptoBulkEntries entries + 1
  | .held _ => 1
def uptoBulkAll {H : Type} : List (DataW H) → Nat
  | [] => 0
  | d :: r => uptoBulk d + uptoBulkAll r
def uptoBulkEntries {H : Type} : List (Lit × DataW H) → Nat
  | [] => 0
  | x :: r => uptoBulkEntry x + uptoBulkEntries r
def uptoBulkEntry {H : Type} : Lit × DataW H → Nat
  | (.string bytes, d) => bytes.length + uptoBulk d + 1
  | (_, d) => uptoBulk d + 1
 end
def uptoSmall : (H : Type) → List (DataW H) → Bool := fun _ ds => decide (uptoBulkAll ds ≤ 1048576)
def OpenSpec.upto (s : _root_.Go.ChangeSpec) : _root_.Go.OpenSpec := { _root_.Go.OpenSpec.ofChange s with cond := some uptoSmall }

/-- 'wharfingerlaw02.TopoParses', WHERE WHAT IT READS IS OF BULK AT MOST 1048576: true; the input reads as it did. -/
def topoParsesUptoRow : OpenClaim := { program := "ytbjlmmeabonbpaadoor", sum := "ef4f84f15b2e6fe68e90025a1d25dc0d2d655dd0754dbb1f2e495635413ae4cf", func := "wharfinger/wharfingerlaw02.TopoParses", spec := "topoParses", inPlace := ["internal/bytealg.IndexByteString", "internal/bytealg.IndexString", "internal/bytealg.CountString"], unfollowed := true, recurses := true, named := ["internal/bytealg.MaxLen", "unicode/utf8.first", "unicode/utf8.acceptRanges"], apart := false, laid := [("unicode/utf8.acceptRanges", laid_unicode_utf8_acceptRanges), ("unicode/utf8.first", laid_unicode_utf8_first)], narrowed := true }
def TopoParsesUptoSaid : Prop := topoParsesUptoRow.holds Tryd.pinned (OpenSpec.upto topoParsesSpec)

/-- 'wharfingerlaw02.TopoMatches', WHERE WHAT IT READS IS OF BULK AT MOST 1048576: true; the input reads as it did. -/
def topoMatchesUptoRow : OpenClaim := { program := "ytbjlmmeabonbpaadoor", sum := "ef4f84f15b2e6fe68e90025a1d25dc0d2d655dd0754dbb1f2e495635413ae4cf", func := "wharfinger/wharfingerlaw02.TopoMatches", spec := "topoMatches", inPlace := ["internal/bytealg.IndexByteString", "internal/bytealg.IndexString", "internal/bytealg.CountString"], unfollowed := true, recurses := true, named := ["internal/bytealg.MaxLen", "unicode/utf8.first", "unicode/utf8.acceptRanges"], apart := false, laid := [("unicode/utf8.acceptRanges", laid_unicode_utf8_acceptRanges), ("unicode/utf8.first", laid_unicode_utf8_first)], narrowed := true }
def TopoMatchesUptoSaid : Prop := topoMatchesUptoRow.holds Tryd.pinned (OpenSpec.upto topoMatchesSpec)

/-- 'wharfingerlaw02.TopoSame', WHERE WHAT IT READS IS OF BULK AT MOST 1048576: true; the input reads as it did. -/
def topoSameUptoRow : OpenClaim := { program := "ytbjlmmeabonbpaadoor", sum := "ef4f84f15b2e6fe68e90025a1d25dc0d2d655dd0754dbb1f2e495635413ae4cf", func := "wharfinger/wharfingerlaw02.TopoSame", spec := "topoSame", inPlace := ["internal/bytealg.IndexByteString", "internal/bytealg.IndexString", "internal/bytealg.CountString"], unfollowed := true, recurses := true, named := ["internal/bytealg.MaxLen", "unicode/utf8.first", "unicode/utf8.acceptRanges"], apart := false, laid := [("unicode/utf8.acceptRanges", laid_unicode_utf8_acceptRanges), ("unicode/utf8.first", laid_unicode_utf8_first)], narrowed := true }
def TopoSameUptoSaid : Prop := topoSameUptoRow.holds Tryd.pinned (OpenSpec.upto topoSameSpec)

/-- 'wharfingerlaw02.TopoPrints', WHERE WHAT IT READS IS OF BULK AT MOST 1048576: true; the input reads as it did. -/
def topoPrintsUptoRow : OpenClaim := { program := "ytbjlmmeabonbpaadoor", sum := "ef4f84f15b2e6fe68e90025a1d25dc0d2d655dd0754dbb1f2e495635413ae4cf", func := "wharfinger/wharfingerlaw02.TopoPrints", spec := "topoPrints", inPlace := ["internal/bytealg.IndexByteString", "internal/bytealg.IndexString", "internal/bytealg.CountString", "internal/abi.NoEscape", "internal/bytealg.MakeNoZero"], unfollowed := true, recurses := true, named := ["internal/bytealg.MaxLen", "unicode/utf8.first", "unicode/utf8.acceptRanges"], apart := false, laid := [("unicode/utf8.acceptRanges", laid_unicode_utf8_acceptRanges), ("unicode/utf8.first", laid_unicode_utf8_first)], narrowed := true }
def TopoPrintsUptoSaid : Prop := topoPrintsUptoRow.holds Tryd.pinned (OpenSpec.upto topoPrintsSpec)

/-- 'wharfingerlaw02.TopoLabels', WHERE WHAT IT READS IS OF BULK AT MOST 1048576: true; the input reads as it did. -/
def topoLabelsUptoRow : OpenClaim := { program := "ytbjlmmeabonbpaadoor", sum := "ef4f84f15b2e6fe68e90025a1d25dc0d2d655dd0754dbb1f2e495635413ae4cf", func := "wharfinger/wharfingerlaw02.TopoLabels", spec := "topoLabels", inPlace := ["internal/bytealg.IndexByteString", "internal/bytealg.IndexString", "internal/bytealg.CountString", "internal/abi.NoEscape", "internal/bytealg.MakeNoZero"], unfollowed := true, recurses := true, named := ["internal/bytealg.MaxLen", "unicode/utf8.first", "unicode/utf8.acceptRanges"], apart := false, laid := [("unicode/utf8.acceptRanges", laid_unicode_utf8_acceptRanges), ("unicode/utf8.first", laid_unicode_utf8_first)], narrowed := true }
def TopoLabelsUptoSaid : Prop := topoLabelsUptoRow.holds Tryd.pinned (OpenSpec.upto topoLabelsSpec)

/-- 'wharfingerlaw02.TopoBack', WHERE WHAT IT READS IS OF BULK AT MOST 1048576: true; the input reads as it did. -/
def topoBackUptoRow : OpenClaim := { program := "ytbjlmmeabonbpaadoor", sum := "ef4f84f15b2e6fe68e90025a1d25dc0d2d655dd0754dbb1f2e495635413ae4cf", func := "wharfinger/wharfingerlaw02.TopoBack", spec := "topoBack", inPlace := ["internal/bytealg.IndexByteString", "internal/bytealg.IndexString", "internal/bytealg.CountString", "internal/abi.NoEscape", "internal/bytealg.MakeNoZero"], unfollowed := true, recurses := true, named := ["internal/bytealg.MaxLen", "unicode/utf8.first", "unicode/utf8.acceptRanges"], apart := false, laid := [("unicode/utf8.acceptRanges", laid_unicode_utf8_acceptRanges), ("unicode/utf8.first", laid_unicode_utf8_first)], narrowed := true }
def TopoBackUptoSaid : Prop := topoBackUptoRow.holds Tryd.pinned (OpenSpec.upto topoBackSpec)

/-- 'wharfingerlaw02.TopoNarrows', WHERE WHAT IT READS IS OF BULK AT MOST 1048576: true; the input reads as it did. -/
def topoNarrowsUptoRow : OpenClaim := { program := "ytbjlmmeabonbpaadoor", sum := "ef4f84f15b2e6fe68e90025a1d25dc0d2d655dd0754dbb1f2e495635413ae4cf", func := "wharfinger/wharfingerlaw02.TopoNarrows", spec := "topoNarrows", inPlace := ["internal/bytealg.IndexByteString", "internal/bytealg.IndexString", "internal/bytealg.CountString"], unfollowed := true, recurses := true, named := ["internal/bytealg.MaxLen", "unicode/utf8.first", "unicode/utf8.acceptRanges"], apart := false, laid := [("unicode/utf8.acceptRanges", laid_unicode_utf8_acceptRanges), ("unicode/utf8.first", laid_unicode_utf8_first)], narrowed := true }
def TopoNarrowsUptoSaid : Prop := topoNarrowsUptoRow.holds Tryd.pinned (OpenSpec.upto topoNarrowsSpec)

/-- 'wharfingerlaw02.TopoBoth', WHERE WHAT IT READS IS OF BULK AT MOST 1048576: true; the input reads as it did. -/
def topoBothUptoRow : OpenClaim := { program := "ytbjlmmeabonbpaadoor", sum := "ef4f84f15b2e6fe68e90025a1d25dc0d2d655dd0754dbb1f2e495635413ae4cf", func := "wharfinger/wharfingerlaw02.TopoBoth", spec := "topoBoth", inPlace := ["internal/bytealg.IndexByteString", "internal/bytealg.IndexString", "internal/bytealg.CountString", "internal/abi.NoEscape", "internal/bytealg.MakeNoZero"], unfollowed := true, recurses := true, named := ["internal/bytealg.MaxLen", "unicode/utf8.first", "unicode/utf8.acceptRanges"], apart := false, laid := [("unicode/utf8.acceptRanges", laid_unicode_utf8_acceptRanges), ("unicode/utf8.first", laid_unicode_utf8_first)], narrowed := true }
def TopoBothUptoSaid : Prop := topoBothUptoRow.holds Tryd.pinned (OpenSpec.upto topoBothSpec)

/-- 'wharfingertop.TopZones', WHERE WHAT IT READS IS OF BULK AT MOST 1048576: true; the input reads as it did. -/
def topZonesUptoRow : OpenClaim := { program := "ytbjlmmeabonbpaadoor", sum := "ef4f84f15b2e6fe68e90025a1d25dc0d2d655dd0754dbb1f2e495635413ae4cf", func := "wharfinger/wharfingertop.TopZones", spec := "topZones", inPlace := ["internal/bytealg.IndexByteString", "internal/bytealg.IndexString", "internal/bytealg.CountString"], unfollowed := true, recurses := true, named := ["internal/bytealg.MaxLen", "unicode/utf8.first", "unicode/utf8.acceptRanges"], apart := false, laid := [("unicode/utf8.acceptRanges", laid_unicode_utf8_acceptRanges), ("unicode/utf8.first", laid_unicode_utf8_first)], narrowed := true }
def TopZonesUptoSaid : Prop := topZonesUptoRow.holds Tryd.pinned (OpenSpec.upto topZonesSpec)

end Rows
end Go.Proofs.YtbjlmmeabonbpaaDoor
