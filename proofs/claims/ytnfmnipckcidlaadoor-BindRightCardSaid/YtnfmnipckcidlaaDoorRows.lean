/-
  NARROWER THAN 'FOR EVERY INPUT', by the rows' own cells (each row's printed sentence says how): BindClaims: laid · BindNames: laid · BindFits: laid · BindRefs: laid · BindVolumes: laid · BindKeeps: laid · BindRests: laid · BindRight: laid.
  DERIVED. THE GIVEN ROWS OF THIS SEAT. 8 by the template 'for every input the law returns true; each argument reads behind the call as it read before'; 0 by the template 'total and deterministic' (their statements: YtnfmnipckcidlaaDoorTotals.lean).
  GIVEN WITH THE SEED: the statements are not yours to turn. If you find one false, say at which input.
  Laid BY PROGRAM, IN A SANDBOX (cutbox-rows.mjs): the forced cells as the released guide's own fill.sh prints them over the translation 183e2d699cd8dd87… (all of the seat's roots in one cut). By AI agents, Wed Nov 11 2026. No macro, syntax, notation, axiom, sorry.
-/
import Derived.Test.YtnfmnipckcidlaaDoorChecked
import GoSem.Claim
import GoSem.ClaimJoined
import GoSem.ClaimMapViews
import Derived.JoinedTies
import Derived.KernelRfl
namespace Go.Proofs.YtnfmnipckcidlaaDoor
/- THE CELL 'sum', in the pinned program and in every row, IS THE sha256 OF THE DUMP (.gsa) THAT YtnfmnipckcidlaaDoorProg.lean LOADS. Nothing in Lean hashes anything: it is a label: what it is worth is what the hold of that sum in a sandbox is worth. -/
noncomputable def Tryd.pinned : Pinned := { name := "ytnfmnipckcidlaadoor", sum := "183e2d699cd8dd872db1a2e1cc81793f71eb564d06478d236a5a5fe6f57c993a", checked := Tryd.checked }
namespace Rows
def none {H : Type} : Left H := { results := [], args := [] }

/- WHAT THE LISTED PACKAGE-LEVEL VARIABLES READ AS WHEN THE CALL BEGINS. Each datum BY PROGRAM (the guide's laid-datum.mjs) off the statement by which the dump's own 'gosem.cut.vars' lays the variable. In a bare row this is a premise. The card (YtnfmnipckcidlaaDoorCards.lean) ties it to the program's text. -/
def laid_math_bits_deBruijn32tab {H : Type} : DataW H := .agg [.lit (.int .u8 0), .lit (.int .u8 1), .lit (.int .u8 28), .lit (.int .u8 2), .lit (.int .u8 29), .lit (.int .u8 14), .lit (.int .u8 24), .lit (.int .u8 3), .lit (.int .u8 30), .lit (.int .u8 22), .lit (.int .u8 20), .lit (.int .u8 15), .lit (.int .u8 25), .lit (.int .u8 17), .lit (.int .u8 4), .lit (.int .u8 8), .lit (.int .u8 31), .lit (.int .u8 27), .lit (.int .u8 13), .lit (.int .u8 23), .lit (.int .u8 21), .lit (.int .u8 19), .lit (.int .u8 16), .lit (.int .u8 7), .lit (.int .u8 26), .lit (.int .u8 12), .lit (.int .u8 18), .lit (.int .u8 6), .lit (.int .u8 11), .lit (.int .u8 5), .lit (.int .u8 10), .lit (.int .u8 9)]
def laid_math_bits_deBruijn64tab {H : Type} : DataW H := .agg [.lit (.int .u8 0), .lit (.int .u8 1), .lit (.int .u8 56), .lit (.int .u8 2), .lit (.int .u8 57), .lit (.int .u8 49), .lit (.int .u8 28), .lit (.int .u8 3), .lit (.int .u8 61), .lit (.int .u8 58), .lit (.int .u8 42), .lit (.int .u8 50), .lit (.int .u8 38), .lit (.int .u8 29), .lit (.int .u8 17), .lit (.int .u8 4), .lit (.int .u8 62), .lit (.int .u8 47), .lit (.int .u8 59), .lit (.int .u8 36), .lit (.int .u8 45), .lit (.int .u8 43), .lit (.int .u8 51), .lit (.int .u8 22), .lit (.int .u8 53), .lit (.int .u8 39), .lit (.int .u8 33), .lit (.int .u8 30), .lit (.int .u8 24), .lit (.int .u8 18), .lit (.int .u8 12), .lit (.int .u8 5), .lit (.int .u8 63), .lit (.int .u8 55), .lit (.int .u8 48), .lit (.int .u8 27), .lit (.int .u8 60), .lit (.int .u8 41), .lit (.int .u8 37), .lit (.int .u8 16), .lit (.int .u8 46), .lit (.int .u8 35), .lit (.int .u8 44), .lit (.int .u8 21), .lit (.int .u8 52), .lit (.int .u8 32), .lit (.int .u8 23), .lit (.int .u8 11), .lit (.int .u8 54), .lit (.int .u8 26), .lit (.int .u8 40), .lit (.int .u8 15), .lit (.int .u8 34), .lit (.int .u8 20), .lit (.int .u8 31), .lit (.int .u8 10), .lit (.int .u8 25), .lit (.int .u8 14), .lit (.int .u8 19), .lit (.int .u8 9), .lit (.int .u8 13), .lit (.int .u8 8), .lit (.int .u8 7), .lit (.int .u8 6)]
def laid_internal_strconv_uint64pow10 {H : Type} : DataW H := .agg [.lit (.int .u64 1), .lit (.int .u64 10), .lit (.int .u64 100), .lit (.int .u64 1000), .lit (.int .u64 10000), .lit (.int .u64 100000), .lit (.int .u64 1000000), .lit (.int .u64 10000000), .lit (.int .u64 100000000), .lit (.int .u64 1000000000), .lit (.int .u64 10000000000), .lit (.int .u64 100000000000), .lit (.int .u64 1000000000000), .lit (.int .u64 10000000000000), .lit (.int .u64 100000000000000), .lit (.int .u64 1000000000000000), .lit (.int .u64 10000000000000000), .lit (.int .u64 100000000000000000), .lit (.int .u64 1000000000000000000), .lit (.int .u64 10000000000000000000)]

/-- 'wharfingerlaw12.BindClaims': WHATEVER THE INPUT: true; the input reads as it did. -/
def bindClaimsSpec : ChangeSpec := { name := "bindClaims", fn := fun _ => fun
  | [d1, d2, d3] => { results := [.lit (.bool true)], args := [d1, d2, d3] }
  | _ => none }
def bindClaimsRow : OpenClaim := { program := "ytnfmnipckcidlaadoor", sum := "183e2d699cd8dd872db1a2e1cc81793f71eb564d06478d236a5a5fe6f57c993a", func := "wharfinger/wharfingerlaw12.BindClaims", spec := "bindClaims", unfollowed := true, recurses := true, named := ["internal/strconv.uint64pow10", "math/bits.deBruijn32tab", "math/bits.deBruijn64tab"], plainKeys := false, apart := false, laid := [("math/bits.deBruijn32tab", laid_math_bits_deBruijn32tab), ("math/bits.deBruijn64tab", laid_math_bits_deBruijn64tab), ("internal/strconv.uint64pow10", laid_internal_strconv_uint64pow10)] }
def BindClaimsSaid : Prop := bindClaimsRow.holds Tryd.pinned (OpenSpec.ofChange bindClaimsSpec)

/-- ITS FALSE NEIGHBOUR: 'it returns false'. Refute it at one input. -/
def bindClaimsWrong : ChangeSpec := { name := "bindClaims", fn := fun _ => fun
  | [d1, d2, d3] => { results := [.lit (.bool false)], args := [d1, d2, d3] }
  | _ => none }
def BindClaimsWrongFalsely : Prop := bindClaimsRow.holds Tryd.pinned (OpenSpec.ofChange bindClaimsWrong)

/-- 'wharfingerlaw12.BindNames': WHATEVER THE INPUT: true; the input reads as it did. -/
def bindNamesSpec : ChangeSpec := { name := "bindNames", fn := fun _ => fun
  | [d1, d2] => { results := [.lit (.bool true)], args := [d1, d2] }
  | _ => none }
def bindNamesRow : OpenClaim := { program := "ytnfmnipckcidlaadoor", sum := "183e2d699cd8dd872db1a2e1cc81793f71eb564d06478d236a5a5fe6f57c993a", func := "wharfinger/wharfingerlaw12.BindNames", spec := "bindNames", unfollowed := true, recurses := true, named := ["internal/strconv.uint64pow10", "math/bits.deBruijn32tab", "math/bits.deBruijn64tab"], plainKeys := false, apart := false, laid := [("math/bits.deBruijn32tab", laid_math_bits_deBruijn32tab), ("math/bits.deBruijn64tab", laid_math_bits_deBruijn64tab), ("internal/strconv.uint64pow10", laid_internal_strconv_uint64pow10)] }
def BindNamesSaid : Prop := bindNamesRow.holds Tryd.pinned (OpenSpec.ofChange bindNamesSpec)

/-- ITS FALSE NEIGHBOUR: 'it returns false'. Refute it at one input. -/
def bindNamesWrong : ChangeSpec := { name := "bindNames", fn := fun _ => fun
  | [d1, d2] => { results := [.lit (.bool false)], args := [d1, d2] }
  | _ => none }
def BindNamesWrongFalsely : Prop := bindNamesRow.holds Tryd.pinned (OpenSpec.ofChange bindNamesWrong)

/-- 'wharfingerlaw12.BindFits': WHATEVER THE INPUT: true; the input reads as it did. -/
def bindFitsSpec : ChangeSpec := { name := "bindFits", fn := fun _ => fun
  | [d1, d2] => { results := [.lit (.bool true)], args := [d1, d2] }
  | _ => none }
def bindFitsRow : OpenClaim := { program := "ytnfmnipckcidlaadoor", sum := "183e2d699cd8dd872db1a2e1cc81793f71eb564d06478d236a5a5fe6f57c993a", func := "wharfinger/wharfingerlaw12.BindFits", spec := "bindFits", unfollowed := true, recurses := true, named := ["internal/strconv.uint64pow10", "math/bits.deBruijn32tab", "math/bits.deBruijn64tab"], plainKeys := false, apart := false, laid := [("math/bits.deBruijn32tab", laid_math_bits_deBruijn32tab), ("math/bits.deBruijn64tab", laid_math_bits_deBruijn64tab), ("internal/strconv.uint64pow10", laid_internal_strconv_uint64pow10)] }
def BindFitsSaid : Prop := bindFitsRow.holds Tryd.pinned (OpenSpec.ofChange bindFitsSpec)

/-- ITS FALSE NEIGHBOUR: 'it returns false'. Refute it at one input. -/
def bindFitsWrong : ChangeSpec := { name := "bindFits", fn := fun _ => fun
  | [d1, d2] => { results := [.lit (.bool false)], args := [d1, d2] }
  | _ => none }
def BindFitsWrongFalsely : Prop := bindFitsRow.holds Tryd.pinned (OpenSpec.ofChange bindFitsWrong)

/-- 'wharfingerlaw12.BindRefs': WHATEVER THE INPUT: true; the input reads as it did. -/
def bindRefsSpec : ChangeSpec := { name := "bindRefs", fn := fun _ => fun
  | [d1, d2, d3] => { results := [.lit (.bool true)], args := [d1, d2, d3] }
  | _ => none }
def bindRefsRow : OpenClaim := { program := "ytnfmnipckcidlaadoor", sum := "183e2d699cd8dd872db1a2e1cc81793f71eb564d06478d236a5a5fe6f57c993a", func := "wharfinger/wharfingerlaw12.BindRefs", spec := "bindRefs", unfollowed := true, recurses := true, named := ["internal/strconv.uint64pow10", "math/bits.deBruijn32tab", "math/bits.deBruijn64tab"], plainKeys := false, apart := false, laid := [("math/bits.deBruijn32tab", laid_math_bits_deBruijn32tab), ("math/bits.deBruijn64tab", laid_math_bits_deBruijn64tab), ("internal/strconv.uint64pow10", laid_internal_strconv_uint64pow10)] }
def BindRefsSaid : Prop := bindRefsRow.holds Tryd.pinned (OpenSpec.ofChange bindRefsSpec)

/-- ITS FALSE NEIGHBOUR: 'it returns false'. Refute it at one input. -/
def bindRefsWrong : ChangeSpec := { name := "bindRefs", fn := fun _ => fun
  | [d1, d2, d3] => { results := [.lit (.bool false)], args := [d1, d2, d3] }
  | _ => none }
def BindRefsWrongFalsely : Prop := bindRefsRow.holds Tryd.pinned (OpenSpec.ofChange bindRefsWrong)

/-- 'wharfingerlaw12.BindVolumes': WHATEVER THE INPUT: true; the input reads as it did. -/
def bindVolumesSpec : ChangeSpec := { name := "bindVolumes", fn := fun _ => fun
  | [d1, d2, d3] => { results := [.lit (.bool true)], args := [d1, d2, d3] }
  | _ => none }
def bindVolumesRow : OpenClaim := { program := "ytnfmnipckcidlaadoor", sum := "183e2d699cd8dd872db1a2e1cc81793f71eb564d06478d236a5a5fe6f57c993a", func := "wharfinger/wharfingerlaw12.BindVolumes", spec := "bindVolumes", unfollowed := true, recurses := true, named := ["internal/strconv.uint64pow10", "math/bits.deBruijn32tab", "math/bits.deBruijn64tab"], plainKeys := false, apart := false, laid := [("math/bits.deBruijn32tab", laid_math_bits_deBruijn32tab), ("math/bits.deBruijn64tab", laid_math_bits_deBruijn64tab), ("internal/strconv.uint64pow10", laid_internal_strconv_uint64pow10)] }
def BindVolumesSaid : Prop := bindVolumesRow.holds Tryd.pinned (OpenSpec.ofChange bindVolumesSpec)

/-- ITS FALSE NEIGHBOUR: 'it returns false'. Refute it at one input. -/
def bindVolumesWrong : ChangeSpec := { name := "bindVolumes", fn := fun _ => fun
  | [d1, d2, d3] => { results := [.lit (.bool false)], args := [d1, d2, d3] }
  | _ => none }
def BindVolumesWrongFalsely : Prop := bindVolumesRow.holds Tryd.pinned (OpenSpec.ofChange bindVolumesWrong)

/-- 'wharfingerlaw12.BindKeeps': WHATEVER THE INPUT: true; the input reads as it did. -/
def bindKeepsSpec : ChangeSpec := { name := "bindKeeps", fn := fun _ => fun
  | [d1, d2, d3] => { results := [.lit (.bool true)], args := [d1, d2, d3] }
  | _ => none }
def bindKeepsRow : OpenClaim := { program := "ytnfmnipckcidlaadoor", sum := "183e2d699cd8dd872db1a2e1cc81793f71eb564d06478d236a5a5fe6f57c993a", func := "wharfinger/wharfingerlaw12.BindKeeps", spec := "bindKeeps", unfollowed := true, recurses := true, named := ["internal/strconv.uint64pow10", "math/bits.deBruijn32tab", "math/bits.deBruijn64tab"], plainKeys := false, apart := false, laid := [("math/bits.deBruijn32tab", laid_math_bits_deBruijn32tab), ("math/bits.deBruijn64tab", laid_math_bits_deBruijn64tab), ("internal/strconv.uint64pow10", laid_internal_strconv_uint64pow10)] }
def BindKeepsSaid : Prop := bindKeepsRow.holds Tryd.pinned (OpenSpec.ofChange bindKeepsSpec)

/-- ITS FALSE NEIGHBOUR: 'it returns false'. Refute it at one input. -/
def bindKeepsWrong : ChangeSpec := { name := "bindKeeps", fn := fun _ => fun
  | [d1, d2, d3] => { results := [.lit (.bool false)], args := [d1, d2, d3] }
  | _ => none }
def BindKeepsWrongFalsely : Prop := bindKeepsRow.holds Tryd.pinned (OpenSpec.ofChange bindKeepsWrong)

/-- 'wharfingerlaw12.BindRests': WHATEVER THE INPUT: true; the input reads as it did. -/
def bindRestsSpec : ChangeSpec := { name := "bindRests", fn := fun _ => fun
  | [d1, d2, d3] => { results := [.lit (.bool true)], args := [d1, d2, d3] }
  | _ => none }
def bindRestsRow : OpenClaim := { program := "ytnfmnipckcidlaadoor", sum := "183e2d699cd8dd872db1a2e1cc81793f71eb564d06478d236a5a5fe6f57c993a", func := "wharfinger/wharfingerlaw12.BindRests", spec := "bindRests", unfollowed := true, recurses := true, named := ["internal/strconv.uint64pow10", "math/bits.deBruijn32tab", "math/bits.deBruijn64tab"], plainKeys := false, apart := false, laid := [("math/bits.deBruijn32tab", laid_math_bits_deBruijn32tab), ("math/bits.deBruijn64tab", laid_math_bits_deBruijn64tab), ("internal/strconv.uint64pow10", laid_internal_strconv_uint64pow10)] }
def BindRestsSaid : Prop := bindRestsRow.holds Tryd.pinned (OpenSpec.ofChange bindRestsSpec)

/-- ITS FALSE NEIGHBOUR: 'it returns false'. Refute it at one input. -/
def bindRestsWrong : ChangeSpec := { name := "bindRests", fn := fun _ => fun
  | [d1, d2, d3] => { results := [.lit (.bool false)], args := [d1, d2, d3] }
  | _ => none }
def BindRestsWrongFalsely : Prop := bindRestsRow.holds Tryd.pinned (OpenSpec.ofChange bindRestsWrong)

/-- 'wharfingerlaw12.BindRight': WHATEVER THE INPUT: true; the input reads as it did. -/
def bindRightSpec : ChangeSpec := { name := "bindRight", fn := fun _ => fun
  | [d1, d2, d3] => { results := [.lit (.bool true)], args := [d1, d2, d3] }
  | _ => none }
def bindRightRow : OpenClaim := { program := "ytnfmnipckcidlaadoor", sum := "183e2d699cd8dd872db1a2e1cc81793f71eb564d06478d236a5a5fe6f57c993a", func := "wharfinger/wharfingerlaw12.BindRight", spec := "bindRight", inPlace := ["internal/abi.NoEscape", "internal/bytealg.MakeNoZero"], unfollowed := true, recurses := true, named := ["internal/strconv.uint64pow10", "math/bits.deBruijn32tab", "math/bits.deBruijn64tab"], plainKeys := false, apart := false, laid := [("math/bits.deBruijn32tab", laid_math_bits_deBruijn32tab), ("math/bits.deBruijn64tab", laid_math_bits_deBruijn64tab), ("internal/strconv.uint64pow10", laid_internal_strconv_uint64pow10)] }
def BindRightSaid : Prop := bindRightRow.holds Tryd.pinned (OpenSpec.ofChange bindRightSpec)

/-- ITS FALSE NEIGHBOUR: 'it returns false'. Refute it at one input. -/
def bindRightWrong : ChangeSpec := { name := "bindRight", fn := fun _ => fun
  | [d1, d2, d3] => { results := [.lit (.bool false)], args := [d1, d2, d3] }
  | _ => none }
def BindRightWrongFalsely : Prop := bindRightRow.holds Tryd.pinned (OpenSpec.ofChange bindRightWrong)

/- THE SECOND FORM. 'bulk': how many values and letters a reading holds, each counted each time it is reached (what is shared counts as often as it is met; a slice's spare places count too). A statement '..UptoSaid' is the law's where the arguments, and the package variables that the reading takes, are together of bulk at most 1048576: NARROWER than '..Said'. Prove '..Said' where nothing that the law and all that it calls make is longer than what came in: it says more and counts as full. Else prove '..UptoSaid'. A law counts once. -/
mutual
def uptoBulk {H : Type} : DataW H → Nat
  | .lit (.string bytes) => bytes.length + 1
  | .lit _ => 1
  | .nil => 1
  | .ptr d => uptoBulk d + 1
  | .slice elems spare => uptoBulkAll elems + uptoBulkAll spare + 1
  | .agg parts => uptoBulkAll parts + 1
  | .iface _ d => uptoBulk d + 1
  | .map entries => uptoBulkEntries entries + 1
  | .held _ => 1
def uptoBulkAll {H : Type} : List (DataW H) → Nat
  | [] => 0
  | d :: r => uptoBulk d + uptoBulkAll r
def uptoBulkEntries {H : Type} : List (Lit × DataW H) → Nat
  | [] => 0
  | x :: r => uptoBulkEntry x + uptoBulkEntries r
def uptoBulkEntry {H : Type} : Lit × DataW H → Nat
  | (.string bytes, d) => bytes.length + uptoBulk d + 1
  | (_, d) => uptoBulk d + 1
 end
def uptoSmall : (H : Type) → List (DataW H) → Bool := fun _ ds => decide (uptoBulkAll ds ≤ 1048576)
def OpenSpec.upto (s : _root_.Go.ChangeSpec) : _root_.Go.OpenSpec := { _root_.Go.OpenSpec.ofChange s with cond := some uptoSmall }

/-- 'wharfingerlaw12.BindClaims', WHERE WHAT IT READS IS OF BULK AT MOST 1048576: true; the input reads as it did. -/
def bindClaimsUptoRow : OpenClaim := { program := "ytnfmnipckcidlaadoor", sum := "183e2d699cd8dd872db1a2e1cc81793f71eb564d06478d236a5a5fe6f57c993a", func := "wharfinger/wharfingerlaw12.BindClaims", spec := "bindClaims", unfollowed := true, recurses := true, named := ["internal/strconv.uint64pow10", "math/bits.deBruijn32tab", "math/bits.deBruijn64tab"], plainKeys := false, apart := false, laid := [("math/bits.deBruijn32tab", laid_math_bits_deBruijn32tab), ("math/bits.deBruijn64tab", laid_math_bits_deBruijn64tab), ("internal/strconv.uint64pow10", laid_internal_strconv_uint64pow10)], narrowed := true }
def BindClaimsUptoSaid : Prop := bindClaimsUptoRow.holds Tryd.pinned (OpenSpec.upto bindClaimsSpec)

/-- 'wharfingerlaw12.BindNames', WHERE WHAT IT READS IS OF BULK AT MOST 1048576: true; the input reads as it did. -/
def bindNamesUptoRow : OpenClaim := { program := "ytnfmnipckcidlaadoor", sum := "183e2d699cd8dd872db1a2e1cc81793f71eb564d06478d236a5a5fe6f57c993a", func := "wharfinger/wharfingerlaw12.BindNames", spec := "bindNames", unfollowed := true, recurses := true, named := ["internal/strconv.uint64pow10", "math/bits.deBruijn32tab", "math/bits.deBruijn64tab"], plainKeys := false, apart := false, laid := [("math/bits.deBruijn32tab", laid_math_bits_deBruijn32tab), ("math/bits.deBruijn64tab", laid_math_bits_deBruijn64tab), ("internal/strconv.uint64pow10", laid_internal_strconv_uint64pow10)], narrowed := true }
def BindNamesUptoSaid : Prop := bindNamesUptoRow.holds Tryd.pinned (OpenSpec.upto bindNamesSpec)

/-- 'wharfingerlaw12.BindFits', WHERE WHAT IT READS IS OF BULK AT MOST 1048576: true; the input reads as it did. -/
def bindFitsUptoRow : OpenClaim := { program := "ytnfmnipckcidlaadoor", sum := "183e2d699cd8dd872db1a2e1cc81793f71eb564d06478d236a5a5fe6f57c993a", func := "wharfinger/wharfingerlaw12.BindFits", spec := "bindFits", unfollowed := true, recurses := true, named := ["internal/strconv.uint64pow10", "math/bits.deBruijn32tab", "math/bits.deBruijn64tab"], plainKeys := false, apart := false, laid := [("math/bits.deBruijn32tab", laid_math_bits_deBruijn32tab), ("math/bits.deBruijn64tab", laid_math_bits_deBruijn64tab), ("internal/strconv.uint64pow10", laid_internal_strconv_uint64pow10)], narrowed := true }
def BindFitsUptoSaid : Prop := bindFitsUptoRow.holds Tryd.pinned (OpenSpec.upto bindFitsSpec)

/-- 'wharfingerlaw12.BindRefs', WHERE WHAT IT READS IS OF BULK AT MOST 1048576: true; the input reads as it did. -/
def bindRefsUptoRow : OpenClaim := { program := "ytnfmnipckcidlaadoor", sum := "183e2d699cd8dd872db1a2e1cc81793f71eb564d06478d236a5a5fe6f57c993a", func := "wharfinger/wharfingerlaw12.BindRefs", spec := "bindRefs", unfollowed := true, recurses := true, named := ["internal/strconv.uint64pow10", "math/bits.deBruijn32tab", "math/bits.deBruijn64tab"], plainKeys := false, apart := false, laid := [("math/bits.deBruijn32tab", laid_math_bits_deBruijn32tab), ("math/bits.deBruijn64tab", laid_math_bits_deBruijn64tab), ("internal/strconv.uint64pow10", laid_internal_strconv_uint64pow10)], narrowed := true }
def BindRefsUptoSaid : Prop := bindRefsUptoRow.holds Tryd.pinned (OpenSpec.upto bindRefsSpec)

/-- 'wharfingerlaw12.BindVolumes', WHERE WHAT IT READS IS OF BULK AT MOST 1048576: true; the input reads as it did. -/
def bindVolumesUptoRow : OpenClaim := { program := "ytnfmnipckcidlaadoor", sum := "183e2d699cd8dd872db1a2e1cc81793f71eb564d06478d236a5a5fe6f57c993a", func := "wharfinger/wharfingerlaw12.BindVolumes", spec := "bindVolumes", unfollowed := true, recurses := true, named := ["internal/strconv.uint64pow10", "math/bits.deBruijn32tab", "math/bits.deBruijn64tab"], plainKeys := false, apart := false, laid := [("math/bits.deBruijn32tab", laid_math_bits_deBruijn32tab), ("math/bits.deBruijn64tab", laid_math_bits_deBruijn64tab), ("internal/strconv.uint64pow10", laid_internal_strconv_uint64pow10)], narrowed := true }
def BindVolumesUptoSaid : Prop := bindVolumesUptoRow.holds Tryd.pinned (OpenSpec.upto bindVolumesSpec)

/-- 'wharfingerlaw12.BindKeeps', WHERE WHAT IT READS IS OF BULK AT MOST 1048576: true; the input reads as it did. -/
def bindKeepsUptoRow : OpenClaim := { program := "ytnfmnipckcidlaadoor", sum := "183e2d699cd8dd872db1a2e1cc81793f71eb564d06478d236a5a5fe6f57c993a", func := "wharfinger/wharfingerlaw12.BindKeeps", spec := "bindKeeps", unfollowed := true, recurses := true, named := ["internal/strconv.uint64pow10", "math/bits.deBruijn32tab", "math/bits.deBruijn64tab"], plainKeys := false, apart := false, laid := [("math/bits.deBruijn32tab", laid_math_bits_deBruijn32tab), ("math/bits.deBruijn64tab", laid_math_bits_deBruijn64tab), ("internal/strconv.uint64pow10", laid_internal_strconv_uint64pow10)], narrowed := true }
def BindKeepsUptoSaid : Prop := bindKeepsUptoRow.holds Tryd.pinned (OpenSpec.upto bindKeepsSpec)

/-- 'wharfingerlaw12.BindRests', WHERE WHAT IT READS IS OF BULK AT MOST 1048576: true; the input reads as it did. -/
def bindRestsUptoRow : OpenClaim := { program := "ytnfmnipckcidlaadoor", sum := "183e2d699cd8dd872db1a2e1cc81793f71eb564d06478d236a5a5fe6f57c993a", func := "wharfinger/wharfingerlaw12.BindRests", spec := "bindRests", unfollowed := true, recurses := true, named := ["internal/strconv.uint64pow10", "math/bits.deBruijn32tab", "math/bits.deBruijn64tab"], plainKeys := false, apart := false, laid := [("math/bits.deBruijn32tab", laid_math_bits_deBruijn32tab), ("math/bits.deBruijn64tab", laid_math_bits_deBruijn64tab), ("internal/strconv.uint64pow10", laid_internal_strconv_uint64pow10)], narrowed := true }
def BindRestsUptoSaid : Prop := bindRestsUptoRow.holds Tryd.pinned (OpenSpec.upto bindRestsSpec)

/-- 'wharfingerlaw12.BindRight', WHERE WHAT IT READS IS OF BULK AT MOST 1048576: true; the input reads as it did. -/
def bindRightUptoRow : OpenClaim := { program := "ytnfmnipckcidlaadoor", sum := "183e2d699cd8dd872db1a2e1cc81793f71eb564d06478d236a5a5fe6f57c993a", func := "wharfinger/wharfingerlaw12.BindRight", spec := "bindRight", inPlace := ["internal/abi.NoEscape", "internal/bytealg.MakeNoZero"], unfollowed := true, recurses := true, named := ["internal/strconv.uint64pow10", "math/bits.deBruijn32tab", "math/bits.deBruijn64tab"], plainKeys := false, apart := false, laid := [("math/bits.deBruijn32tab", laid_math_bits_deBruijn32tab), ("math/bits.deBruijn64tab", laid_math_bits_deBruijn64tab), ("internal/strconv.uint64pow10", laid_internal_strconv_uint64pow10)], narrowed := true }
def BindRightUptoSaid : Prop := bindRightUptoRow.holds Tryd.pinned (OpenSpec.upto bindRightSpec)

end Rows
end Go.Proofs.YtnfmnipckcidlaaDoor
