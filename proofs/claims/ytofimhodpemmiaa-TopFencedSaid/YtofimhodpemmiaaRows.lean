/-
  No cell of these rows narrows 'for every input' (looked for: loops, veiled, ifaces, maps, wideKeys, modest, calm, conditions, laid).
  DERIVED. THE GIVEN ROWS OF THIS SEAT. 8 by the template 'for every input the law returns true; each argument reads behind the call as it read before'; 0 by the template 'total and deterministic' (their statements: YtofimhodpemmiaaTotals.lean).
  GIVEN WITH THE SEED: the statements are not yours to turn. If you find one false, say at which input.
  Laid BY PROGRAM, IN A SANDBOX (cutbox-rows.mjs): the forced cells as the released guide's own fill.sh prints them over the translation e93251ccbba445c4… (all of the seat's roots in one cut). By AI agents, Wed Nov 11 2026. No macro, syntax, notation, axiom, sorry.
-/
import Derived.Test.YtofimhodpemmiaaChecked
import GoSem.Claim
import GoSem.ClaimJoined
import GoSem.ClaimMapViews
import Derived.JoinedTies
import Derived.KernelRfl
namespace Go.Proofs.Ytofimhodpemmiaa
/- THE CELL 'sum', in the pinned program and in every row, IS THE sha256 OF THE DUMP (.gsa) THAT YtofimhodpemmiaaProg.lean LOADS. Nothing in Lean hashes anything: it is a label: what it is worth is what the hold of that sum in a sandbox is worth. -/
noncomputable def Try.pinned : Pinned := { name := "ytofimhodpemmiaa", sum := "e93251ccbba445c442f1f0614858f7fc91ce1da389980fd8f09a5c7e6a932cd1", checked := Try.checked }
namespace Rows
def none {H : Type} : Left H := { results := [], args := [] }

/-- 'wharfingerlaw09.LeaseOne': WHATEVER THE INPUT: true; the input reads as it did. -/
def leaseOneSpec : ChangeSpec := { name := "leaseOne", fn := fun _ => fun
  | [d] => { results := [.lit (.bool true)], args := [d] }
  | _ => none }
def leaseOneRow : OpenClaim := { program := "ytofimhodpemmiaa", sum := "e93251ccbba445c442f1f0614858f7fc91ce1da389980fd8f09a5c7e6a932cd1", func := "wharfinger/wharfingerlaw09.LeaseOne", spec := "leaseOne", unfollowed := true, recurses := true, apart := false }
def LeaseOneSaid : Prop := leaseOneRow.holds Try.pinned (OpenSpec.ofChange leaseOneSpec)

/-- ITS FALSE NEIGHBOUR: 'it returns false'. Refute it at one input. -/
def leaseOneWrong : ChangeSpec := { name := "leaseOne", fn := fun _ => fun
  | [d] => { results := [.lit (.bool false)], args := [d] }
  | _ => none }
def LeaseOneWrongFalsely : Prop := leaseOneRow.holds Try.pinned (OpenSpec.ofChange leaseOneWrong)

/-- 'wharfingerlaw09.LeaseTerms': WHATEVER THE INPUT: true; the input reads as it did. -/
def leaseTermsSpec : ChangeSpec := { name := "leaseTerms", fn := fun _ => fun
  | [d] => { results := [.lit (.bool true)], args := [d] }
  | _ => none }
def leaseTermsRow : OpenClaim := { program := "ytofimhodpemmiaa", sum := "e93251ccbba445c442f1f0614858f7fc91ce1da389980fd8f09a5c7e6a932cd1", func := "wharfinger/wharfingerlaw09.LeaseTerms", spec := "leaseTerms", unfollowed := true, recurses := true, apart := false }
def LeaseTermsSaid : Prop := leaseTermsRow.holds Try.pinned (OpenSpec.ofChange leaseTermsSpec)

/-- ITS FALSE NEIGHBOUR: 'it returns false'. Refute it at one input. -/
def leaseTermsWrong : ChangeSpec := { name := "leaseTerms", fn := fun _ => fun
  | [d] => { results := [.lit (.bool false)], args := [d] }
  | _ => none }
def LeaseTermsWrongFalsely : Prop := leaseTermsRow.holds Try.pinned (OpenSpec.ofChange leaseTermsWrong)

/-- 'wharfingerlaw09.LeaseEnds': WHATEVER THE INPUT: true; the input reads as it did. -/
def leaseEndsSpec : ChangeSpec := { name := "leaseEnds", fn := fun _ => fun
  | [d1, d2] => { results := [.lit (.bool true)], args := [d1, d2] }
  | _ => none }
def leaseEndsRow : OpenClaim := { program := "ytofimhodpemmiaa", sum := "e93251ccbba445c442f1f0614858f7fc91ce1da389980fd8f09a5c7e6a932cd1", func := "wharfinger/wharfingerlaw09.LeaseEnds", spec := "leaseEnds", unfollowed := true, recurses := true, apart := false }
def LeaseEndsSaid : Prop := leaseEndsRow.holds Try.pinned (OpenSpec.ofChange leaseEndsSpec)

/-- ITS FALSE NEIGHBOUR: 'it returns false'. Refute it at one input. -/
def leaseEndsWrong : ChangeSpec := { name := "leaseEnds", fn := fun _ => fun
  | [d1, d2] => { results := [.lit (.bool false)], args := [d1, d2] }
  | _ => none }
def LeaseEndsWrongFalsely : Prop := leaseEndsRow.holds Try.pinned (OpenSpec.ofChange leaseEndsWrong)

/-- 'wharfingerlaw09.LeaseTries': WHATEVER THE INPUT: true; the input reads as it did. -/
def leaseTriesSpec : ChangeSpec := { name := "leaseTries", fn := fun _ => fun
  | [d1, d2] => { results := [.lit (.bool true)], args := [d1, d2] }
  | _ => none }
def leaseTriesRow : OpenClaim := { program := "ytofimhodpemmiaa", sum := "e93251ccbba445c442f1f0614858f7fc91ce1da389980fd8f09a5c7e6a932cd1", func := "wharfinger/wharfingerlaw09.LeaseTries", spec := "leaseTries", unfollowed := true, recurses := true, apart := false }
def LeaseTriesSaid : Prop := leaseTriesRow.holds Try.pinned (OpenSpec.ofChange leaseTriesSpec)

/-- ITS FALSE NEIGHBOUR: 'it returns false'. Refute it at one input. -/
def leaseTriesWrong : ChangeSpec := { name := "leaseTries", fn := fun _ => fun
  | [d1, d2] => { results := [.lit (.bool false)], args := [d1, d2] }
  | _ => none }
def LeaseTriesWrongFalsely : Prop := leaseTriesRow.holds Try.pinned (OpenSpec.ofChange leaseTriesWrong)

/-- 'wharfingerlaw09.LeaseGives': WHATEVER THE INPUT: true; the input reads as it did. -/
def leaseGivesSpec : ChangeSpec := { name := "leaseGives", fn := fun _ => fun
  | [d1, d2, d3] => { results := [.lit (.bool true)], args := [d1, d2, d3] }
  | _ => none }
def leaseGivesRow : OpenClaim := { program := "ytofimhodpemmiaa", sum := "e93251ccbba445c442f1f0614858f7fc91ce1da389980fd8f09a5c7e6a932cd1", func := "wharfinger/wharfingerlaw09.LeaseGives", spec := "leaseGives", unfollowed := true, recurses := true, apart := false }
def LeaseGivesSaid : Prop := leaseGivesRow.holds Try.pinned (OpenSpec.ofChange leaseGivesSpec)

/-- ITS FALSE NEIGHBOUR: 'it returns false'. Refute it at one input. -/
def leaseGivesWrong : ChangeSpec := { name := "leaseGives", fn := fun _ => fun
  | [d1, d2, d3] => { results := [.lit (.bool false)], args := [d1, d2, d3] }
  | _ => none }
def LeaseGivesWrongFalsely : Prop := leaseGivesRow.holds Try.pinned (OpenSpec.ofChange leaseGivesWrong)

/-- 'wharfingerlaw09.LeaseGuards': WHATEVER THE INPUT: true; the input reads as it did. -/
def leaseGuardsSpec : ChangeSpec := { name := "leaseGuards", fn := fun _ => fun
  | [d] => { results := [.lit (.bool true)], args := [d] }
  | _ => none }
def leaseGuardsRow : OpenClaim := { program := "ytofimhodpemmiaa", sum := "e93251ccbba445c442f1f0614858f7fc91ce1da389980fd8f09a5c7e6a932cd1", func := "wharfinger/wharfingerlaw09.LeaseGuards", spec := "leaseGuards", unfollowed := true, recurses := true, apart := false }
def LeaseGuardsSaid : Prop := leaseGuardsRow.holds Try.pinned (OpenSpec.ofChange leaseGuardsSpec)

/-- ITS FALSE NEIGHBOUR: 'it returns false'. Refute it at one input. -/
def leaseGuardsWrong : ChangeSpec := { name := "leaseGuards", fn := fun _ => fun
  | [d] => { results := [.lit (.bool false)], args := [d] }
  | _ => none }
def LeaseGuardsWrongFalsely : Prop := leaseGuardsRow.holds Try.pinned (OpenSpec.ofChange leaseGuardsWrong)

/-- 'wharfingerlaw09.LeaseNone': WHATEVER THE INPUT: true; the input reads as it did. -/
def leaseNoneSpec : ChangeSpec := { name := "leaseNone", fn := fun _ => fun
  | [d] => { results := [.lit (.bool true)], args := [d] }
  | _ => none }
def leaseNoneRow : OpenClaim := { program := "ytofimhodpemmiaa", sum := "e93251ccbba445c442f1f0614858f7fc91ce1da389980fd8f09a5c7e6a932cd1", func := "wharfinger/wharfingerlaw09.LeaseNone", spec := "leaseNone", unfollowed := true, recurses := true, apart := false }
def LeaseNoneSaid : Prop := leaseNoneRow.holds Try.pinned (OpenSpec.ofChange leaseNoneSpec)

/-- ITS FALSE NEIGHBOUR: 'it returns false'. Refute it at one input. -/
def leaseNoneWrong : ChangeSpec := { name := "leaseNone", fn := fun _ => fun
  | [d] => { results := [.lit (.bool false)], args := [d] }
  | _ => none }
def LeaseNoneWrongFalsely : Prop := leaseNoneRow.holds Try.pinned (OpenSpec.ofChange leaseNoneWrong)

/-- 'wharfingertop.TopFenced': WHATEVER THE INPUT: true; the input reads as it did. -/
def topFencedSpec : ChangeSpec := { name := "topFenced", fn := fun _ => fun
  | [d1, d2] => { results := [.lit (.bool true)], args := [d1, d2] }
  | _ => none }
def topFencedRow : OpenClaim := { program := "ytofimhodpemmiaa", sum := "e93251ccbba445c442f1f0614858f7fc91ce1da389980fd8f09a5c7e6a932cd1", func := "wharfinger/wharfingertop.TopFenced", spec := "topFenced", unfollowed := true, recurses := true, apart := false }
def TopFencedSaid : Prop := topFencedRow.holds Try.pinned (OpenSpec.ofChange topFencedSpec)

/-- ITS FALSE NEIGHBOUR: 'it returns false'. Refute it at one input. -/
def topFencedWrong : ChangeSpec := { name := "topFenced", fn := fun _ => fun
  | [d1, d2] => { results := [.lit (.bool false)], args := [d1, d2] }
  | _ => none }
def TopFencedWrongFalsely : Prop := topFencedRow.holds Try.pinned (OpenSpec.ofChange topFencedWrong)

/- THE SECOND FORM. 'bulk': how many values and letters a reading holds, each counted each time it is reached (what is shared counts as often as it is met; a slice's spare places count too). A statement '..UptoSaid' is the law's where the arguments, and the package variables that the reading takes, are together of bulk at most 1048576: NARROWER than '..Said'. Prove '..Said' where nothing that the law and all that it calls make is longer than what came in: it says more and counts as full. Else prove '..UptoSaid'. A law counts once. -/
mutual
def uptoBulk {H : Type} : DataW H → Nat
  | .lit (.string bytes) => bytes.length + 1
  | .lit _ => 1
  | .nil => 1
  | .ptr d => uptoBulk d + 1
  | .slice elems spare => uptoBulkAll elems + uptoBulkAll spare + 1
  | .agg parts => uptoBulkAll parts + 1
  | .iface _ d => uptoBulk d + 1
  | .map entries => uptoBulkEntries entries + 1
  | .held _ => 1
def uptoBulkAll {H : Type} : List (DataW H) → Nat
  | [] => 0
  | d :: r => uptoBulk d + uptoBulkAll r
def uptoBulkEntries {H : Type} : List (Lit × DataW H) → Nat
  | [] => 0
  | x :: r => uptoBulkEntry x + uptoBulkEntries r
def uptoBulkEntry {H : Type} : Lit × DataW H → Nat
  | (.string bytes, d) => bytes.length + uptoBulk d + 1
  | (_, d) => uptoBulk d + 1
 end
def uptoSmall : (H : Type) → List (DataW H) → Bool := fun _ ds => decide (uptoBulkAll ds ≤ 1048576)
def OpenSpec.upto (s : _root_.Go.ChangeSpec) : _root_.Go.OpenSpec := { _root_.Go.OpenSpec.ofChange s with cond := some uptoSmall }

/-- 'wharfingerlaw09.LeaseOne', WHERE WHAT IT READS IS OF BULK AT MOST 1048576: true; the input reads as it did. -/
def leaseOneUptoRow : OpenClaim := { program := "ytofimhodpemmiaa", sum := "e93251ccbba445c442f1f0614858f7fc91ce1da389980fd8f09a5c7e6a932cd1", func := "wharfinger/wharfingerlaw09.LeaseOne", spec := "leaseOne", unfollowed := true, recurses := true, apart := false, narrowed := true }
def LeaseOneUptoSaid : Prop := leaseOneUptoRow.holds Try.pinned (OpenSpec.upto leaseOneSpec)

/-- 'wharfingerlaw09.LeaseTerms', WHERE WHAT IT READS IS OF BULK AT MOST 1048576: true; the input reads as it did. -/
def leaseTermsUptoRow : OpenClaim := { program := "ytofimhodpemmiaa", sum := "e93251ccbba445c442f1f0614858f7fc91ce1da389980fd8f09a5c7e6a932cd1", func := "wharfinger/wharfingerlaw09.LeaseTerms", spec := "leaseTerms", unfollowed := true, recurses := true, apart := false, narrowed := true }
def LeaseTermsUptoSaid : Prop := leaseTermsUptoRow.holds Try.pinned (OpenSpec.upto leaseTermsSpec)

/-- 'wharfingerlaw09.LeaseEnds', WHERE WHAT IT READS IS OF BULK AT MOST 1048576: true; the input reads as it did. -/
def leaseEndsUptoRow : OpenClaim := { program := "ytofimhodpemmiaa", sum := "e93251ccbba445c442f1f0614858f7fc91ce1da389980fd8f09a5c7e6a932cd1", func := "wharfinger/wharfingerlaw09.LeaseEnds", spec := "leaseEnds", unfollowed := true, recurses := true, apart := false, narrowed := true }
def LeaseEndsUptoSaid : Prop := leaseEndsUptoRow.holds Try.pinned (OpenSpec.upto leaseEndsSpec)

/-- 'wharfingerlaw09.LeaseTries', WHERE WHAT IT READS IS OF BULK AT MOST 1048576: true; the input reads as it did. -/
def leaseTriesUptoRow : OpenClaim := { program := "ytofimhodpemmiaa", sum := "e93251ccbba445c442f1f0614858f7fc91ce1da389980fd8f09a5c7e6a932cd1", func := "wharfinger/wharfingerlaw09.LeaseTries", spec := "leaseTries", unfollowed := true, recurses := true, apart := false, narrowed := true }
def LeaseTriesUptoSaid : Prop := leaseTriesUptoRow.holds Try.pinned (OpenSpec.upto leaseTriesSpec)

/-- 'wharfingerlaw09.LeaseGives', WHERE WHAT IT READS IS OF BULK AT MOST 1048576: true; the input reads as it did. -/
def leaseGivesUptoRow : OpenClaim := { program := "ytofimhodpemmiaa", sum := "e93251ccbba445c442f1f0614858f7fc91ce1da389980fd8f09a5c7e6a932cd1", func := "wharfinger/wharfingerlaw09.LeaseGives", spec := "leaseGives", unfollowed := true, recurses := true, apart := false, narrowed := true }
def LeaseGivesUptoSaid : Prop := leaseGivesUptoRow.holds Try.pinned (OpenSpec.upto leaseGivesSpec)

/-- 'wharfingerlaw09.LeaseGuards', WHERE WHAT IT READS IS OF BULK AT MOST 1048576: true; the input reads as it did. -/
def leaseGuardsUptoRow : OpenClaim := { program := "ytofimhodpemmiaa", sum := "e93251ccbba445c442f1f0614858f7fc91ce1da389980fd8f09a5c7e6a932cd1", func := "wharfinger/wharfingerlaw09.LeaseGuards", spec := "leaseGuards", unfollowed := true, recurses := true, apart := false, narrowed := true }
def LeaseGuardsUptoSaid : Prop := leaseGuardsUptoRow.holds Try.pinned (OpenSpec.upto leaseGuardsSpec)

/-- 'wharfingerlaw09.LeaseNone', WHERE WHAT IT READS IS OF BULK AT MOST 1048576: true; the input reads as it did. -/
def leaseNoneUptoRow : OpenClaim := { program := "ytofimhodpemmiaa", sum := "e93251ccbba445c442f1f0614858f7fc91ce1da389980fd8f09a5c7e6a932cd1", func := "wharfinger/wharfingerlaw09.LeaseNone", spec := "leaseNone", unfollowed := true, recurses := true, apart := false, narrowed := true }
def LeaseNoneUptoSaid : Prop := leaseNoneUptoRow.holds Try.pinned (OpenSpec.upto leaseNoneSpec)

/-- 'wharfingertop.TopFenced', WHERE WHAT IT READS IS OF BULK AT MOST 1048576: true; the input reads as it did. -/
def topFencedUptoRow : OpenClaim := { program := "ytofimhodpemmiaa", sum := "e93251ccbba445c442f1f0614858f7fc91ce1da389980fd8f09a5c7e6a932cd1", func := "wharfinger/wharfingertop.TopFenced", spec := "topFenced", unfollowed := true, recurses := true, apart := false, narrowed := true }
def TopFencedUptoSaid : Prop := topFencedUptoRow.holds Try.pinned (OpenSpec.upto topFencedSpec)

end Rows
end Go.Proofs.Ytofimhodpemmiaa
