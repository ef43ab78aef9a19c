/-
  NARROWER THAN 'FOR EVERY INPUT', by the rows' own cells (each row's printed sentence says how): DataClaims: laid · DataSnapshots: laid · DataGrows: laid · DataRight: laid · DataWaits: laid · DataHandles: laid · DataAfters: laid · DataStep: laid · TopCut: laid.
  DERIVED. THE GIVEN ROWS OF THIS SEAT. 9 by the template 'for every input the law returns true; each argument reads behind the call as it read before'; 0 by the template 'total and deterministic' (their statements: YtondcpkhedjajaaDoorTotals.lean).
  GIVEN WITH THE SEED: the statements are not yours to turn. If you find one false, say at which input.
  Laid BY PROGRAM, IN A SANDBOX (cutbox-rows.mjs): the forced cells as the released guide's own fill.sh prints them over the translation 25237b14a51c0c16… (all of the seat's roots in one cut). By AI agents, Wed Nov 11 2026. No macro, syntax, notation, axiom, sorry.
-/
import Derived.Test.YtondcpkhedjajaaDoorChecked
import GoSem.Claim
import GoSem.ClaimJoined
import GoSem.ClaimMapViews
import Derived.JoinedTies
import Derived.KernelRfl
namespace Go.Proofs.YtondcpkhedjajaaDoor
/- THE CELL 'sum', in the pinned program and in every row, IS THE sha256 OF THE DUMP (.gsa) THAT YtondcpkhedjajaaDoorProg.lean LOADS. Nothing in Lean hashes anything: it is a label: what it is worth is what the hold of that sum in a sandbox is worth. -/
noncomputable def Tryd.pinned : Pinned := { name := "ytondcpkhedjajaadoor", sum := "25237b14a51c0c16f25c4526c1cfb91d4a8094feb35708d6185c72f122900b3a", checked := Tryd.checked }
namespace Rows
def none {H : Type} : Left H := { results := [], args := [] }

/- WHAT THE LISTED PACKAGE-LEVEL VARIABLES READ AS WHEN THE CALL BEGINS. Each datum BY PROGRAM (the guide's laid-datum.mjs) off the statement by which the dump's own 'gosem.cut.vars' lays the variable. In a bare row this is a premise. The card (YtondcpkhedjajaaDoorCards.lean) ties it to the program's text. -/
def laid_math_bits_deBruijn32tab {H : Type} : DataW H := .agg [.lit (.int .u8 0), .lit (.int .u8 1), .lit (.int .u8 28), .lit (.int .u8 2), .lit (.int .u8 29), .lit (.int .u8 14), .lit (.int .u8 24), .lit (.int .u8 3), .lit (.int .u8 30), .lit (.int .u8 22), .lit (.int .u8 20), .lit (.int .u8 15), .lit (.int .u8 25), .lit (.int .u8 17), .lit (.int .u8 4), .lit (.int .u8 8), .lit (.int .u8 31), .lit (.int .u8 27), .lit (.int .u8 13), .lit (.int .u8 23), .lit (.int .u8 21), .lit (.int .u8 19), .lit (.int .u8 16), .lit (.int .u8 7), .lit (.int .u8 26), .lit (.int .u8 12), .lit (.int .u8 18), .lit (.int .u8 6), .lit (.int .u8 11), .lit (.int .u8 5), .lit (.int .u8 10), .lit (.int .u8 9)]
def laid_math_bits_deBruijn64tab {H : Type} : DataW H := .agg [.lit (.int .u8 0), .lit (.int .u8 1), .lit (.int .u8 56), .lit (.int .u8 2), .lit (.int .u8 57), .lit (.int .u8 49), .lit (.int .u8 28), .lit (.int .u8 3), .lit (.int .u8 61), .lit (.int .u8 58), .lit (.int .u8 42), .lit (.int .u8 50), .lit (.int .u8 38), .lit (.int .u8 29), .lit (.int .u8 17), .lit (.int .u8 4), .lit (.int .u8 62), .lit (.int .u8 47), .lit (.int .u8 59), .lit (.int .u8 36), .lit (.int .u8 45), .lit (.int .u8 43), .lit (.int .u8 51), .lit (.int .u8 22), .lit (.int .u8 53), .lit (.int .u8 39), .lit (.int .u8 33), .lit (.int .u8 30), .lit (.int .u8 24), .lit (.int .u8 18), .lit (.int .u8 12), .lit (.int .u8 5), .lit (.int .u8 63), .lit (.int .u8 55), .lit (.int .u8 48), .lit (.int .u8 27), .lit (.int .u8 60), .lit (.int .u8 41), .lit (.int .u8 37), .lit (.int .u8 16), .lit (.int .u8 46), .lit (.int .u8 35), .lit (.int .u8 44), .lit (.int .u8 21), .lit (.int .u8 52), .lit (.int .u8 32), .lit (.int .u8 23), .lit (.int .u8 11), .lit (.int .u8 54), .lit (.int .u8 26), .lit (.int .u8 40), .lit (.int .u8 15), .lit (.int .u8 34), .lit (.int .u8 20), .lit (.int .u8 31), .lit (.int .u8 10), .lit (.int .u8 25), .lit (.int .u8 14), .lit (.int .u8 19), .lit (.int .u8 9), .lit (.int .u8 13), .lit (.int .u8 8), .lit (.int .u8 7), .lit (.int .u8 6)]
def laid_internal_strconv_uint64pow10 {H : Type} : DataW H := .agg [.lit (.int .u64 1), .lit (.int .u64 10), .lit (.int .u64 100), .lit (.int .u64 1000), .lit (.int .u64 10000), .lit (.int .u64 100000), .lit (.int .u64 1000000), .lit (.int .u64 10000000), .lit (.int .u64 100000000), .lit (.int .u64 1000000000), .lit (.int .u64 10000000000), .lit (.int .u64 100000000000), .lit (.int .u64 1000000000000), .lit (.int .u64 10000000000000), .lit (.int .u64 100000000000000), .lit (.int .u64 1000000000000000), .lit (.int .u64 10000000000000000), .lit (.int .u64 100000000000000000), .lit (.int .u64 1000000000000000000), .lit (.int .u64 10000000000000000000)]

/-- 'wharfingerlaw14.DataClaims': WHATEVER THE INPUT: true; the input reads as it did. -/
def dataClaimsSpec : ChangeSpec := { name := "dataClaims", fn := fun _ => fun
  | [d1, d2, d3] => { results := [.lit (.bool true)], args := [d1, d2, d3] }
  | _ => none }
def dataClaimsRow : OpenClaim := { program := "ytondcpkhedjajaadoor", sum := "25237b14a51c0c16f25c4526c1cfb91d4a8094feb35708d6185c72f122900b3a", func := "wharfinger/wharfingerlaw14.DataClaims", spec := "dataClaims", named := ["internal/strconv.uint64pow10", "math/bits.deBruijn32tab", "math/bits.deBruijn64tab"], apart := false, laid := [("math/bits.deBruijn32tab", laid_math_bits_deBruijn32tab), ("math/bits.deBruijn64tab", laid_math_bits_deBruijn64tab), ("internal/strconv.uint64pow10", laid_internal_strconv_uint64pow10)] }
def DataClaimsSaid : Prop := dataClaimsRow.holds Tryd.pinned (OpenSpec.ofChange dataClaimsSpec)

/-- ITS FALSE NEIGHBOUR: 'it returns false'. Refute it at one input. -/
def dataClaimsWrong : ChangeSpec := { name := "dataClaims", fn := fun _ => fun
  | [d1, d2, d3] => { results := [.lit (.bool false)], args := [d1, d2, d3] }
  | _ => none }
def DataClaimsWrongFalsely : Prop := dataClaimsRow.holds Tryd.pinned (OpenSpec.ofChange dataClaimsWrong)

/-- 'wharfingerlaw14.DataSnapshots': WHATEVER THE INPUT: true; the input reads as it did. -/
def dataSnapshotsSpec : ChangeSpec := { name := "dataSnapshots", fn := fun _ => fun
  | [d1, d2, d3] => { results := [.lit (.bool true)], args := [d1, d2, d3] }
  | _ => none }
def dataSnapshotsRow : OpenClaim := { program := "ytondcpkhedjajaadoor", sum := "25237b14a51c0c16f25c4526c1cfb91d4a8094feb35708d6185c72f122900b3a", func := "wharfinger/wharfingerlaw14.DataSnapshots", spec := "dataSnapshots", named := ["internal/strconv.uint64pow10", "math/bits.deBruijn32tab", "math/bits.deBruijn64tab"], apart := false, laid := [("math/bits.deBruijn32tab", laid_math_bits_deBruijn32tab), ("math/bits.deBruijn64tab", laid_math_bits_deBruijn64tab), ("internal/strconv.uint64pow10", laid_internal_strconv_uint64pow10)] }
def DataSnapshotsSaid : Prop := dataSnapshotsRow.holds Tryd.pinned (OpenSpec.ofChange dataSnapshotsSpec)

/-- ITS FALSE NEIGHBOUR: 'it returns false'. Refute it at one input. -/
def dataSnapshotsWrong : ChangeSpec := { name := "dataSnapshots", fn := fun _ => fun
  | [d1, d2, d3] => { results := [.lit (.bool false)], args := [d1, d2, d3] }
  | _ => none }
def DataSnapshotsWrongFalsely : Prop := dataSnapshotsRow.holds Tryd.pinned (OpenSpec.ofChange dataSnapshotsWrong)

/-- 'wharfingerlaw14.DataGrows': WHATEVER THE INPUT: true; the input reads as it did. -/
def dataGrowsSpec : ChangeSpec := { name := "dataGrows", fn := fun _ => fun
  | [d1, d2, d3] => { results := [.lit (.bool true)], args := [d1, d2, d3] }
  | _ => none }
def dataGrowsRow : OpenClaim := { program := "ytondcpkhedjajaadoor", sum := "25237b14a51c0c16f25c4526c1cfb91d4a8094feb35708d6185c72f122900b3a", func := "wharfinger/wharfingerlaw14.DataGrows", spec := "dataGrows", named := ["internal/strconv.uint64pow10", "math/bits.deBruijn32tab", "math/bits.deBruijn64tab"], apart := false, laid := [("math/bits.deBruijn32tab", laid_math_bits_deBruijn32tab), ("math/bits.deBruijn64tab", laid_math_bits_deBruijn64tab), ("internal/strconv.uint64pow10", laid_internal_strconv_uint64pow10)] }
def DataGrowsSaid : Prop := dataGrowsRow.holds Tryd.pinned (OpenSpec.ofChange dataGrowsSpec)

/-- ITS FALSE NEIGHBOUR: 'it returns false'. Refute it at one input. -/
def dataGrowsWrong : ChangeSpec := { name := "dataGrows", fn := fun _ => fun
  | [d1, d2, d3] => { results := [.lit (.bool false)], args := [d1, d2, d3] }
  | _ => none }
def DataGrowsWrongFalsely : Prop := dataGrowsRow.holds Tryd.pinned (OpenSpec.ofChange dataGrowsWrong)

/-- 'wharfingerlaw14.DataRight': WHATEVER THE INPUT: true; the input reads as it did. -/
def dataRightSpec : ChangeSpec := { name := "dataRight", fn := fun _ => fun
  | [d1, d2, d3] => { results := [.lit (.bool true)], args := [d1, d2, d3] }
  | _ => none }
def dataRightRow : OpenClaim := { program := "ytondcpkhedjajaadoor", sum := "25237b14a51c0c16f25c4526c1cfb91d4a8094feb35708d6185c72f122900b3a", func := "wharfinger/wharfingerlaw14.DataRight", spec := "dataRight", named := ["internal/strconv.uint64pow10", "math/bits.deBruijn32tab", "math/bits.deBruijn64tab"], apart := false, laid := [("math/bits.deBruijn32tab", laid_math_bits_deBruijn32tab), ("math/bits.deBruijn64tab", laid_math_bits_deBruijn64tab), ("internal/strconv.uint64pow10", laid_internal_strconv_uint64pow10)] }
def DataRightSaid : Prop := dataRightRow.holds Tryd.pinned (OpenSpec.ofChange dataRightSpec)

/-- ITS FALSE NEIGHBOUR: 'it returns false'. Refute it at one input. -/
def dataRightWrong : ChangeSpec := { name := "dataRight", fn := fun _ => fun
  | [d1, d2, d3] => { results := [.lit (.bool false)], args := [d1, d2, d3] }
  | _ => none }
def DataRightWrongFalsely : Prop := dataRightRow.holds Tryd.pinned (OpenSpec.ofChange dataRightWrong)

/-- 'wharfingerlaw14.DataWaits': WHATEVER THE INPUT: true; the input reads as it did. -/
def dataWaitsSpec : ChangeSpec := { name := "dataWaits", fn := fun _ => fun
  | [d1, d2, d3] => { results := [.lit (.bool true)], args := [d1, d2, d3] }
  | _ => none }
def dataWaitsRow : OpenClaim := { program := "ytondcpkhedjajaadoor", sum := "25237b14a51c0c16f25c4526c1cfb91d4a8094feb35708d6185c72f122900b3a", func := "wharfinger/wharfingerlaw14.DataWaits", spec := "dataWaits", named := ["internal/strconv.uint64pow10", "math/bits.deBruijn32tab", "math/bits.deBruijn64tab"], apart := false, laid := [("math/bits.deBruijn32tab", laid_math_bits_deBruijn32tab), ("math/bits.deBruijn64tab", laid_math_bits_deBruijn64tab), ("internal/strconv.uint64pow10", laid_internal_strconv_uint64pow10)] }
def DataWaitsSaid : Prop := dataWaitsRow.holds Tryd.pinned (OpenSpec.ofChange dataWaitsSpec)

/-- ITS FALSE NEIGHBOUR: 'it returns false'. Refute it at one input. -/
def dataWaitsWrong : ChangeSpec := { name := "dataWaits", fn := fun _ => fun
  | [d1, d2, d3] => { results := [.lit (.bool false)], args := [d1, d2, d3] }
  | _ => none }
def DataWaitsWrongFalsely : Prop := dataWaitsRow.holds Tryd.pinned (OpenSpec.ofChange dataWaitsWrong)

/-- 'wharfingerlaw14.DataHandles': WHATEVER THE INPUT: true; the input reads as it did. -/
def dataHandlesSpec : ChangeSpec := { name := "dataHandles", fn := fun _ => fun
  | [d1, d2, d3] => { results := [.lit (.bool true)], args := [d1, d2, d3] }
  | _ => none }
def dataHandlesRow : OpenClaim := { program := "ytondcpkhedjajaadoor", sum := "25237b14a51c0c16f25c4526c1cfb91d4a8094feb35708d6185c72f122900b3a", func := "wharfinger/wharfingerlaw14.DataHandles", spec := "dataHandles", named := ["internal/strconv.uint64pow10", "math/bits.deBruijn32tab", "math/bits.deBruijn64tab"], apart := false, laid := [("math/bits.deBruijn32tab", laid_math_bits_deBruijn32tab), ("math/bits.deBruijn64tab", laid_math_bits_deBruijn64tab), ("internal/strconv.uint64pow10", laid_internal_strconv_uint64pow10)] }
def DataHandlesSaid : Prop := dataHandlesRow.holds Tryd.pinned (OpenSpec.ofChange dataHandlesSpec)

/-- ITS FALSE NEIGHBOUR: 'it returns false'. Refute it at one input. -/
def dataHandlesWrong : ChangeSpec := { name := "dataHandles", fn := fun _ => fun
  | [d1, d2, d3] => { results := [.lit (.bool false)], args := [d1, d2, d3] }
  | _ => none }
def DataHandlesWrongFalsely : Prop := dataHandlesRow.holds Tryd.pinned (OpenSpec.ofChange dataHandlesWrong)

/-- 'wharfingerlaw14.DataAfters': WHATEVER THE INPUT: true; the input reads as it did. -/
def dataAftersSpec : ChangeSpec := { name := "dataAfters", fn := fun _ => fun
  | [d1, d2, d3] => { results := [.lit (.bool true)], args := [d1, d2, d3] }
  | _ => none }
def dataAftersRow : OpenClaim := { program := "ytondcpkhedjajaadoor", sum := "25237b14a51c0c16f25c4526c1cfb91d4a8094feb35708d6185c72f122900b3a", func := "wharfinger/wharfingerlaw14.DataAfters", spec := "dataAfters", named := ["internal/strconv.uint64pow10", "math/bits.deBruijn32tab", "math/bits.deBruijn64tab"], apart := false, laid := [("math/bits.deBruijn32tab", laid_math_bits_deBruijn32tab), ("math/bits.deBruijn64tab", laid_math_bits_deBruijn64tab), ("internal/strconv.uint64pow10", laid_internal_strconv_uint64pow10)] }
def DataAftersSaid : Prop := dataAftersRow.holds Tryd.pinned (OpenSpec.ofChange dataAftersSpec)

/-- ITS FALSE NEIGHBOUR: 'it returns false'. Refute it at one input. -/
def dataAftersWrong : ChangeSpec := { name := "dataAfters", fn := fun _ => fun
  | [d1, d2, d3] => { results := [.lit (.bool false)], args := [d1, d2, d3] }
  | _ => none }
def DataAftersWrongFalsely : Prop := dataAftersRow.holds Tryd.pinned (OpenSpec.ofChange dataAftersWrong)

/-- 'wharfingerlaw14.DataStep': WHATEVER THE INPUT: true; the input reads as it did. -/
def dataStepSpec : ChangeSpec := { name := "dataStep", fn := fun _ => fun
  | [d1, d2] => { results := [.lit (.bool true)], args := [d1, d2] }
  | _ => none }
def dataStepRow : OpenClaim := { program := "ytondcpkhedjajaadoor", sum := "25237b14a51c0c16f25c4526c1cfb91d4a8094feb35708d6185c72f122900b3a", func := "wharfinger/wharfingerlaw14.DataStep", spec := "dataStep", named := ["internal/strconv.uint64pow10", "math/bits.deBruijn32tab", "math/bits.deBruijn64tab"], apart := false, laid := [("math/bits.deBruijn32tab", laid_math_bits_deBruijn32tab), ("math/bits.deBruijn64tab", laid_math_bits_deBruijn64tab), ("internal/strconv.uint64pow10", laid_internal_strconv_uint64pow10)] }
def DataStepSaid : Prop := dataStepRow.holds Tryd.pinned (OpenSpec.ofChange dataStepSpec)

/-- ITS FALSE NEIGHBOUR: 'it returns false'. Refute it at one input. -/
def dataStepWrong : ChangeSpec := { name := "dataStep", fn := fun _ => fun
  | [d1, d2] => { results := [.lit (.bool false)], args := [d1, d2] }
  | _ => none }
def DataStepWrongFalsely : Prop := dataStepRow.holds Tryd.pinned (OpenSpec.ofChange dataStepWrong)

/-- 'wharfingertop.TopCut': WHATEVER THE INPUT: true; the input reads as it did. -/
def topCutSpec : ChangeSpec := { name := "topCut", fn := fun _ => fun
  | [d1, d2] => { results := [.lit (.bool true)], args := [d1, d2] }
  | _ => none }
def topCutRow : OpenClaim := { program := "ytondcpkhedjajaadoor", sum := "25237b14a51c0c16f25c4526c1cfb91d4a8094feb35708d6185c72f122900b3a", func := "wharfinger/wharfingertop.TopCut", spec := "topCut", named := ["internal/strconv.uint64pow10", "math/bits.deBruijn32tab", "math/bits.deBruijn64tab"], apart := false, laid := [("math/bits.deBruijn32tab", laid_math_bits_deBruijn32tab), ("math/bits.deBruijn64tab", laid_math_bits_deBruijn64tab), ("internal/strconv.uint64pow10", laid_internal_strconv_uint64pow10)] }
def TopCutSaid : Prop := topCutRow.holds Tryd.pinned (OpenSpec.ofChange topCutSpec)

/-- ITS FALSE NEIGHBOUR: 'it returns false'. Refute it at one input. -/
def topCutWrong : ChangeSpec := { name := "topCut", fn := fun _ => fun
  | [d1, d2] => { results := [.lit (.bool false)], args := [d1, d2] }
  | _ => none }
def TopCutWrongFalsely : Prop := topCutRow.holds Tryd.pinned (OpenSpec.ofChange topCutWrong)

/- THE SECOND FORM. 'bulk': how many values and letters a reading holds, each counted each time it is reached (what is shared counts as often as it is met; a slice's spare places count too). A statement '..UptoSaid' is the law's where the arguments, and the package variables that the reading takes, are together of bulk at most 1048576: NARROWER than '..Said'. Prove '..Said' where nothing that the law and all that it calls make is longer than what came in: it says more and counts as full. Else prove '..UptoSaid'. A law counts once. -/
mutual
def uptoBulk {H : Type} : DataW H → Nat
  | .lit (.string bytes) => bytes.length + 1
  | .lit _ => 1
  | .nil => 1
  | .ptr d => uptoBulk d + 1
  | .slice elems spare => uptoBulkAll elems + uptoBulkAll spare + 1
  | .agg parts => uptoBulkAll parts + 1
  | .iface _ d => uptoBulk d + 1
  | .map entries => uptoBulkEntries entries + 1
  | .held _ => 1
def uptoBulkAll {H : Type} : List (DataW H) → Nat
  | [] => 0
  | d :: r => uptoBulk d + uptoBulkAll r
def uptoBulkEntries {H : Type} : List (Lit × DataW H) → Nat
  | [] => 0
  | x :: r => uptoBulkEntry x + uptoBulkEntries r
def uptoBulkEntry {H : Type} : Lit × DataW H → Nat
  | (.string bytes, d) => bytes.length + uptoBulk d + 1
  | (_, d) => uptoBulk d + 1
 end
def uptoSmall : (H : Type) → List (DataW H) → Bool := fun _ ds => decide (uptoBulkAll ds ≤ 1048576)
def OpenSpec.upto (s : _root_.Go.ChangeSpec) : _root_.Go.OpenSpec := { _root_.Go.OpenSpec.ofChange s with cond := some uptoSmall }

/-- 'wharfingerlaw14.DataClaims', WHERE WHAT IT READS IS OF BULK AT MOST 1048576: true; the input reads as it did. -/
def dataClaimsUptoRow : OpenClaim := { program := "ytondcpkhedjajaadoor", sum := "25237b14a51c0c16f25c4526c1cfb91d4a8094feb35708d6185c72f122900b3a", func := "wharfinger/wharfingerlaw14.DataClaims", spec := "dataClaims", named := ["internal/strconv.uint64pow10", "math/bits.deBruijn32tab", "math/bits.deBruijn64tab"], apart := false, laid := [("math/bits.deBruijn32tab", laid_math_bits_deBruijn32tab), ("math/bits.deBruijn64tab", laid_math_bits_deBruijn64tab), ("internal/strconv.uint64pow10", laid_internal_strconv_uint64pow10)], narrowed := true }
def DataClaimsUptoSaid : Prop := dataClaimsUptoRow.holds Tryd.pinned (OpenSpec.upto dataClaimsSpec)

/-- 'wharfingerlaw14.DataSnapshots', WHERE WHAT IT READS IS OF BULK AT MOST 1048576: true; the input reads as it did. -/
def dataSnapshotsUptoRow : OpenClaim := { program := "ytondcpkhedjajaadoor", sum := "25237b14a51c0c16f25c4526c1cfb91d4a8094feb35708d6185c72f122900b3a", func := "wharfinger/wharfingerlaw14.DataSnapshots", spec := "dataSnapshots", named := ["internal/strconv.uint64pow10", "math/bits.deBruijn32tab", "math/bits.deBruijn64tab"], apart := false, laid := [("math/bits.deBruijn32tab", laid_math_bits_deBruijn32tab), ("math/bits.deBruijn64tab", laid_math_bits_deBruijn64tab), ("internal/strconv.uint64pow10", laid_internal_strconv_uint64pow10)], narrowed := true }
def DataSnapshotsUptoSaid : Prop := dataSnapshotsUptoRow.holds Tryd.pinned (OpenSpec.upto dataSnapshotsSpec)

/-- 'wharfingerlaw14.DataGrows', WHERE WHAT IT READS IS OF BULK AT MOST 1048576: true; the input reads as it did. -/
def dataGrowsUptoRow : OpenClaim := { program := "ytondcpkhedjajaadoor", sum := "25237b14a51c0c16f25c4526c1cfb91d4a8094feb35708d6185c72f122900b3a", func := "wharfinger/wharfingerlaw14.DataGrows", spec := "dataGrows", named := ["internal/strconv.uint64pow10", "math/bits.deBruijn32tab", "math/bits.deBruijn64tab"], apart := false, laid := [("math/bits.deBruijn32tab", laid_math_bits_deBruijn32tab), ("math/bits.deBruijn64tab", laid_math_bits_deBruijn64tab), ("internal/strconv.uint64pow10", laid_internal_strconv_uint64pow10)], narrowed := true }
def DataGrowsUptoSaid : Prop := dataGrowsUptoRow.holds Tryd.pinned (OpenSpec.upto dataGrowsSpec)

/-- 'wharfingerlaw14.DataRight', WHERE WHAT IT READS IS OF BULK AT MOST 1048576: true; the input reads as it did. -/
def dataRightUptoRow : OpenClaim := { program := "ytondcpkhedjajaadoor", sum := "25237b14a51c0c16f25c4526c1cfb91d4a8094feb35708d6185c72f122900b3a", func := "wharfinger/wharfingerlaw14.DataRight", spec := "dataRight", named := ["internal/strconv.uint64pow10", "math/bits.deBruijn32tab", "math/bits.deBruijn64tab"], apart := false, laid := [("math/bits.deBruijn32tab", laid_math_bits_deBruijn32tab), ("math/bits.deBruijn64tab", laid_math_bits_deBruijn64tab), ("internal/strconv.uint64pow10", laid_internal_strconv_uint64pow10)], narrowed := true }
def DataRightUptoSaid : Prop := dataRightUptoRow.holds Tryd.pinned (OpenSpec.upto dataRightSpec)

/-- 'wharfingerlaw14.DataWaits', WHERE WHAT IT READS IS OF BULK AT MOST 1048576: true; the input reads as it did. -/
def dataWaitsUptoRow : OpenClaim := { program := "ytondcpkhedjajaadoor", sum := "25237b14a51c0c16f25c4526c1cfb91d4a8094feb35708d6185c72f122900b3a", func := "wharfinger/wharfingerlaw14.DataWaits", spec := "dataWaits", named := ["internal/strconv.uint64pow10", "math/bits.deBruijn32tab", "math/bits.deBruijn64tab"], apart := false, laid := [("math/bits.deBruijn32tab", laid_math_bits_deBruijn32tab), ("math/bits.deBruijn64tab", laid_math_bits_deBruijn64tab), ("internal/strconv.uint64pow10", laid_internal_strconv_uint64pow10)], narrowed := true }
def DataWaitsUptoSaid : Prop := dataWaitsUptoRow.holds Tryd.pinned (OpenSpec.upto dataWaitsSpec)

/-- 'wharfingerlaw14.DataHandles', WHERE WHAT IT READS IS OF BULK AT MOST 1048576: true; the input reads as it did. -/
def dataHandlesUptoRow : OpenClaim := { program := "ytondcpkhedjajaadoor", sum := "25237b14a51c0c16f25c4526c1cfb91d4a8094feb35708d6185c72f122900b3a", func := "wharfinger/wharfingerlaw14.DataHandles", spec := "dataHandles", named := ["internal/strconv.uint64pow10", "math/bits.deBruijn32tab", "math/bits.deBruijn64tab"], apart := false, laid := [("math/bits.deBruijn32tab", laid_math_bits_deBruijn32tab), ("math/bits.deBruijn64tab", laid_math_bits_deBruijn64tab), ("internal/strconv.uint64pow10", laid_internal_strconv_uint64pow10)], narrowed := true }
def DataHandlesUptoSaid : Prop := dataHandlesUptoRow.holds Tryd.pinned (OpenSpec.upto dataHandlesSpec)

/-- 'wharfingerlaw14.DataAfters', WHERE WHAT IT READS IS OF BULK AT MOST 1048576: true; the input reads as it did. -/
def dataAftersUptoRow : OpenClaim := { program := "ytondcpkhedjajaadoor", sum := "25237b14a51c0c16f25c4526c1cfb91d4a8094feb35708d6185c72f122900b3a", func := "wharfinger/wharfingerlaw14.DataAfters", spec := "dataAfters", named := ["internal/strconv.uint64pow10", "math/bits.deBruijn32tab", "math/bits.deBruijn64tab"], apart := false, laid := [("math/bits.deBruijn32tab", laid_math_bits_deBruijn32tab), ("math/bits.deBruijn64tab", laid_math_bits_deBruijn64tab), ("internal/strconv.uint64pow10", laid_internal_strconv_uint64pow10)], narrowed := true }
def DataAftersUptoSaid : Prop := dataAftersUptoRow.holds Tryd.pinned (OpenSpec.upto dataAftersSpec)

/-- 'wharfingerlaw14.DataStep', WHERE WHAT IT READS IS OF BULK AT MOST 1048576: true; the input reads as it did. -/
def dataStepUptoRow : OpenClaim := { program := "ytondcpkhedjajaadoor", sum := "25237b14a51c0c16f25c4526c1cfb91d4a8094feb35708d6185c72f122900b3a", func := "wharfinger/wharfingerlaw14.DataStep", spec := "dataStep", named := ["internal/strconv.uint64pow10", "math/bits.deBruijn32tab", "math/bits.deBruijn64tab"], apart := false, laid := [("math/bits.deBruijn32tab", laid_math_bits_deBruijn32tab), ("math/bits.deBruijn64tab", laid_math_bits_deBruijn64tab), ("internal/strconv.uint64pow10", laid_internal_strconv_uint64pow10)], narrowed := true }
def DataStepUptoSaid : Prop := dataStepUptoRow.holds Tryd.pinned (OpenSpec.upto dataStepSpec)

/-- 'wharfingertop.TopCut', WHERE WHAT IT READS IS OF BULK AT MOST 1048576: true; the input reads as it did. -/
def topCutUptoRow : OpenClaim := { program := "ytondcpkhedjajaadoor", sum := "25237b14a51c0c16f25c4526c1cfb91d4a8094feb35708d6185c72f122900b3a", func := "wharfinger/wharfingertop.TopCut", spec := "topCut", named := ["internal/strconv.uint64pow10", "math/bits.deBruijn32tab", "math/bits.deBruijn64tab"], apart := false, laid := [("math/bits.deBruijn32tab", laid_math_bits_deBruijn32tab), ("math/bits.deBruijn64tab", laid_math_bits_deBruijn64tab), ("internal/strconv.uint64pow10", laid_internal_strconv_uint64pow10)], narrowed := true }
def TopCutUptoSaid : Prop := topCutUptoRow.holds Tryd.pinned (OpenSpec.upto topCutSpec)

end Rows
end Go.Proofs.YtondcpkhedjajaaDoor
