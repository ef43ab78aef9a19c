/-
  No cell of these rows narrows 'for every input' (looked for: loops, veiled, ifaces, maps, wideKeys, modest, calm, conditions, laid).
  DERIVED. THE GIVEN ROWS OF THIS SEAT. 16 by the template 'for every input the law returns true; each argument reads behind the call as it read before'; 0 by the template 'total and deterministic' (their statements: YtpffbkbadnhmmaaTotals.lean).
  GIVEN WITH THE SEED: the statements are not yours to turn. If you find one false, say at which input.
  Laid BY PROGRAM, IN A SANDBOX (cutbox-rows.mjs): the forced cells as the released guide's own fill.sh prints them over the translation f8439183c1ba47af… (all of the seat's roots in one cut). By AI agents, Wed Nov 11 2026. No macro, syntax, notation, axiom, sorry.
-/
import Derived.Test.YtpffbkbadnhmmaaChecked
import GoSem.Claim
import GoSem.ClaimJoined
import GoSem.ClaimMapViews
import Derived.JoinedTies
import Derived.KernelRfl
namespace Go.Proofs.Ytpffbkbadnhmmaa
/- THE CELL 'sum', in the pinned program and in every row, IS THE sha256 OF THE DUMP (.gsa) THAT YtpffbkbadnhmmaaProg.lean LOADS. Nothing in Lean hashes anything: it is a label: what it is worth is what the hold of that sum in a sandbox is worth. -/
noncomputable def Try.pinned : Pinned := { name := "ytpffbkbadnhmmaa", sum := "f8439183c1ba47af7be4d925140b861642959ed6e96f52f3eb0f9035787e645a", checked := Try.checked }
namespace Rows
def none {H : Type} : Left H := { results := [], args := [] }

/-- 'wharfingerlaw10.DriverZones': WHATEVER THE INPUT: true; the input reads as it did. -/
def driverZonesSpec : ChangeSpec := { name := "driverZones", fn := fun _ => fun
  | [d] => { results := [.lit (.bool true)], args := [d] }
  | _ => none }
def driverZonesRow : OpenClaim := { program := "ytpffbkbadnhmmaa", sum := "f8439183c1ba47af7be4d925140b861642959ed6e96f52f3eb0f9035787e645a", func := "wharfinger/wharfingerlaw10.DriverZones", spec := "driverZones", unfollowed := true, recurses := true, plainKeys := false, apart := false }
def DriverZonesSaid : Prop := driverZonesRow.holds Try.pinned (OpenSpec.ofChange driverZonesSpec)

/-- ITS FALSE NEIGHBOUR: 'it returns false'. Refute it at one input. -/
def driverZonesWrong : ChangeSpec := { name := "driverZones", fn := fun _ => fun
  | [d] => { results := [.lit (.bool false)], args := [d] }
  | _ => none }
def DriverZonesWrongFalsely : Prop := driverZonesRow.holds Try.pinned (OpenSpec.ofChange driverZonesWrong)

/-- 'wharfingerlaw10.DriverRoom': WHATEVER THE INPUT: true; the input reads as it did. -/
def driverRoomSpec : ChangeSpec := { name := "driverRoom", fn := fun _ => fun
  | [d1, d2] => { results := [.lit (.bool true)], args := [d1, d2] }
  | _ => none }
def driverRoomRow : OpenClaim := { program := "ytpffbkbadnhmmaa", sum := "f8439183c1ba47af7be4d925140b861642959ed6e96f52f3eb0f9035787e645a", func := "wharfinger/wharfingerlaw10.DriverRoom", spec := "driverRoom", unfollowed := true, recurses := true, plainKeys := false, apart := false }
def DriverRoomSaid : Prop := driverRoomRow.holds Try.pinned (OpenSpec.ofChange driverRoomSpec)

/-- ITS FALSE NEIGHBOUR: 'it returns false'. Refute it at one input. -/
def driverRoomWrong : ChangeSpec := { name := "driverRoom", fn := fun _ => fun
  | [d1, d2] => { results := [.lit (.bool false)], args := [d1, d2] }
  | _ => none }
def DriverRoomWrongFalsely : Prop := driverRoomRow.holds Try.pinned (OpenSpec.ofChange driverRoomWrong)

/-- 'wharfingerlaw10.DriverGrows': WHATEVER THE INPUT: true; the input reads as it did. -/
def driverGrowsSpec : ChangeSpec := { name := "driverGrows", fn := fun _ => fun
  | [d1, d2, d3] => { results := [.lit (.bool true)], args := [d1, d2, d3] }
  | _ => none }
def driverGrowsRow : OpenClaim := { program := "ytpffbkbadnhmmaa", sum := "f8439183c1ba47af7be4d925140b861642959ed6e96f52f3eb0f9035787e645a", func := "wharfinger/wharfingerlaw10.DriverGrows", spec := "driverGrows", unfollowed := true, recurses := true, plainKeys := false, apart := false }
def DriverGrowsSaid : Prop := driverGrowsRow.holds Try.pinned (OpenSpec.ofChange driverGrowsSpec)

/-- ITS FALSE NEIGHBOUR: 'it returns false'. Refute it at one input. -/
def driverGrowsWrong : ChangeSpec := { name := "driverGrows", fn := fun _ => fun
  | [d1, d2, d3] => { results := [.lit (.bool false)], args := [d1, d2, d3] }
  | _ => none }
def DriverGrowsWrongFalsely : Prop := driverGrowsRow.holds Try.pinned (OpenSpec.ofChange driverGrowsWrong)

/-- 'wharfingerlaw10.DriverPlays': WHATEVER THE INPUT: true; the input reads as it did. -/
def driverPlaysSpec : ChangeSpec := { name := "driverPlays", fn := fun _ => fun
  | [d1, d2, d3] => { results := [.lit (.bool true)], args := [d1, d2, d3] }
  | _ => none }
def driverPlaysRow : OpenClaim := { program := "ytpffbkbadnhmmaa", sum := "f8439183c1ba47af7be4d925140b861642959ed6e96f52f3eb0f9035787e645a", func := "wharfinger/wharfingerlaw10.DriverPlays", spec := "driverPlays", unfollowed := true, recurses := true, plainKeys := false, apart := false }
def DriverPlaysSaid : Prop := driverPlaysRow.holds Try.pinned (OpenSpec.ofChange driverPlaysSpec)

/-- ITS FALSE NEIGHBOUR: 'it returns false'. Refute it at one input. -/
def driverPlaysWrong : ChangeSpec := { name := "driverPlays", fn := fun _ => fun
  | [d1, d2, d3] => { results := [.lit (.bool false)], args := [d1, d2, d3] }
  | _ => none }
def DriverPlaysWrongFalsely : Prop := driverPlaysRow.holds Try.pinned (OpenSpec.ofChange driverPlaysWrong)

/-- 'wharfingerlaw10.DriverBegins': WHATEVER THE INPUT: true; the input reads as it did. -/
def driverBeginsSpec : ChangeSpec := { name := "driverBegins", fn := fun _ => fun
  | [d1, d2, d3] => { results := [.lit (.bool true)], args := [d1, d2, d3] }
  | _ => none }
def driverBeginsRow : OpenClaim := { program := "ytpffbkbadnhmmaa", sum := "f8439183c1ba47af7be4d925140b861642959ed6e96f52f3eb0f9035787e645a", func := "wharfinger/wharfingerlaw10.DriverBegins", spec := "driverBegins", unfollowed := true, recurses := true, plainKeys := false, apart := false }
def DriverBeginsSaid : Prop := driverBeginsRow.holds Try.pinned (OpenSpec.ofChange driverBeginsSpec)

/-- ITS FALSE NEIGHBOUR: 'it returns false'. Refute it at one input. -/
def driverBeginsWrong : ChangeSpec := { name := "driverBegins", fn := fun _ => fun
  | [d1, d2, d3] => { results := [.lit (.bool false)], args := [d1, d2, d3] }
  | _ => none }
def DriverBeginsWrongFalsely : Prop := driverBeginsRow.holds Try.pinned (OpenSpec.ofChange driverBeginsWrong)

/-- 'wharfingerlaw10.DriverCuts': WHATEVER THE INPUT: true; the input reads as it did. -/
def driverCutsSpec : ChangeSpec := { name := "driverCuts", fn := fun _ => fun
  | [d1, d2, d3] => { results := [.lit (.bool true)], args := [d1, d2, d3] }
  | _ => none }
def driverCutsRow : OpenClaim := { program := "ytpffbkbadnhmmaa", sum := "f8439183c1ba47af7be4d925140b861642959ed6e96f52f3eb0f9035787e645a", func := "wharfinger/wharfingerlaw10.DriverCuts", spec := "driverCuts", unfollowed := true, recurses := true, plainKeys := false, apart := false }
def DriverCutsSaid : Prop := driverCutsRow.holds Try.pinned (OpenSpec.ofChange driverCutsSpec)

/-- ITS FALSE NEIGHBOUR: 'it returns false'. Refute it at one input. -/
def driverCutsWrong : ChangeSpec := { name := "driverCuts", fn := fun _ => fun
  | [d1, d2, d3] => { results := [.lit (.bool false)], args := [d1, d2, d3] }
  | _ => none }
def DriverCutsWrongFalsely : Prop := driverCutsRow.holds Try.pinned (OpenSpec.ofChange driverCutsWrong)

/-- 'wharfingerlaw10.DriverAgain': WHATEVER THE INPUT: true; the input reads as it did. -/
def driverAgainSpec : ChangeSpec := { name := "driverAgain", fn := fun _ => fun
  | [d1, d2, d3] => { results := [.lit (.bool true)], args := [d1, d2, d3] }
  | _ => none }
def driverAgainRow : OpenClaim := { program := "ytpffbkbadnhmmaa", sum := "f8439183c1ba47af7be4d925140b861642959ed6e96f52f3eb0f9035787e645a", func := "wharfinger/wharfingerlaw10.DriverAgain", spec := "driverAgain", inPlace := ["maps.clone"], unfollowed := true, recurses := true, plainKeys := false, apart := false }
def DriverAgainSaid : Prop := driverAgainRow.holds Try.pinned (OpenSpec.ofChange driverAgainSpec)

/-- ITS FALSE NEIGHBOUR: 'it returns false'. Refute it at one input. -/
def driverAgainWrong : ChangeSpec := { name := "driverAgain", fn := fun _ => fun
  | [d1, d2, d3] => { results := [.lit (.bool false)], args := [d1, d2, d3] }
  | _ => none }
def DriverAgainWrongFalsely : Prop := driverAgainRow.holds Try.pinned (OpenSpec.ofChange driverAgainWrong)

/-- 'wharfingerlaw10.DriverStale': WHATEVER THE INPUT: true; the input reads as it did. -/
def driverStaleSpec : ChangeSpec := { name := "driverStale", fn := fun _ => fun
  | [d1, d2, d3] => { results := [.lit (.bool true)], args := [d1, d2, d3] }
  | _ => none }
def driverStaleRow : OpenClaim := { program := "ytpffbkbadnhmmaa", sum := "f8439183c1ba47af7be4d925140b861642959ed6e96f52f3eb0f9035787e645a", func := "wharfinger/wharfingerlaw10.DriverStale", spec := "driverStale", inPlace := ["maps.clone"], unfollowed := true, recurses := true, plainKeys := false, apart := false }
def DriverStaleSaid : Prop := driverStaleRow.holds Try.pinned (OpenSpec.ofChange driverStaleSpec)

/-- ITS FALSE NEIGHBOUR: 'it returns false'. Refute it at one input. -/
def driverStaleWrong : ChangeSpec := { name := "driverStale", fn := fun _ => fun
  | [d1, d2, d3] => { results := [.lit (.bool false)], args := [d1, d2, d3] }
  | _ => none }
def DriverStaleWrongFalsely : Prop := driverStaleRow.holds Try.pinned (OpenSpec.ofChange driverStaleWrong)

/-- 'wharfingerlaw10.DriverForks': WHATEVER THE INPUT: true; the input reads as it did. -/
def driverForksSpec : ChangeSpec := { name := "driverForks", fn := fun _ => fun
  | [d1, d2, d3] => { results := [.lit (.bool true)], args := [d1, d2, d3] }
  | _ => none }
def driverForksRow : OpenClaim := { program := "ytpffbkbadnhmmaa", sum := "f8439183c1ba47af7be4d925140b861642959ed6e96f52f3eb0f9035787e645a", func := "wharfinger/wharfingerlaw10.DriverForks", spec := "driverForks", inPlace := ["maps.clone"], unfollowed := true, recurses := true, plainKeys := false, apart := false }
def DriverForksSaid : Prop := driverForksRow.holds Try.pinned (OpenSpec.ofChange driverForksSpec)

/-- ITS FALSE NEIGHBOUR: 'it returns false'. Refute it at one input. -/
def driverForksWrong : ChangeSpec := { name := "driverForks", fn := fun _ => fun
  | [d1, d2, d3] => { results := [.lit (.bool false)], args := [d1, d2, d3] }
  | _ => none }
def DriverForksWrongFalsely : Prop := driverForksRow.holds Try.pinned (OpenSpec.ofChange driverForksWrong)

/-- 'wharfingerlaw10.DriverNone': WHATEVER THE INPUT: true; the input reads as it did. -/
def driverNoneSpec : ChangeSpec := { name := "driverNone", fn := fun _ => fun
  | [d] => { results := [.lit (.bool true)], args := [d] }
  | _ => none }
def driverNoneRow : OpenClaim := { program := "ytpffbkbadnhmmaa", sum := "f8439183c1ba47af7be4d925140b861642959ed6e96f52f3eb0f9035787e645a", func := "wharfinger/wharfingerlaw10.DriverNone", spec := "driverNone", inPlace := ["maps.clone"], unfollowed := true, recurses := true, plainKeys := false, apart := false }
def DriverNoneSaid : Prop := driverNoneRow.holds Try.pinned (OpenSpec.ofChange driverNoneSpec)

/-- ITS FALSE NEIGHBOUR: 'it returns false'. Refute it at one input. -/
def driverNoneWrong : ChangeSpec := { name := "driverNone", fn := fun _ => fun
  | [d] => { results := [.lit (.bool false)], args := [d] }
  | _ => none }
def DriverNoneWrongFalsely : Prop := driverNoneRow.holds Try.pinned (OpenSpec.ofChange driverNoneWrong)

/-- 'wharfingerlaw11.CallSent': WHATEVER THE INPUT: true; the input reads as it did. -/
def callSentSpec : ChangeSpec := { name := "callSent", fn := fun _ => fun
  | [d1, d2] => { results := [.lit (.bool true)], args := [d1, d2] }
  | _ => none }
def callSentRow : OpenClaim := { program := "ytpffbkbadnhmmaa", sum := "f8439183c1ba47af7be4d925140b861642959ed6e96f52f3eb0f9035787e645a", func := "wharfinger/wharfingerlaw11.CallSent", spec := "callSent", unfollowed := true, recurses := true, plainKeys := false, apart := false }
def CallSentSaid : Prop := callSentRow.holds Try.pinned (OpenSpec.ofChange callSentSpec)

/-- ITS FALSE NEIGHBOUR: 'it returns false'. Refute it at one input. -/
def callSentWrong : ChangeSpec := { name := "callSent", fn := fun _ => fun
  | [d1, d2] => { results := [.lit (.bool false)], args := [d1, d2] }
  | _ => none }
def CallSentWrongFalsely : Prop := callSentRow.holds Try.pinned (OpenSpec.ofChange callSentWrong)

/-- 'wharfingerlaw11.CallPlays': WHATEVER THE INPUT: true; the input reads as it did. -/
def callPlaysSpec : ChangeSpec := { name := "callPlays", fn := fun _ => fun
  | [d] => { results := [.lit (.bool true)], args := [d] }
  | _ => none }
def callPlaysRow : OpenClaim := { program := "ytpffbkbadnhmmaa", sum := "f8439183c1ba47af7be4d925140b861642959ed6e96f52f3eb0f9035787e645a", func := "wharfinger/wharfingerlaw11.CallPlays", spec := "callPlays", unfollowed := true, recurses := true, plainKeys := false, apart := false }
def CallPlaysSaid : Prop := callPlaysRow.holds Try.pinned (OpenSpec.ofChange callPlaysSpec)

/-- ITS FALSE NEIGHBOUR: 'it returns false'. Refute it at one input. -/
def callPlaysWrong : ChangeSpec := { name := "callPlays", fn := fun _ => fun
  | [d] => { results := [.lit (.bool false)], args := [d] }
  | _ => none }
def CallPlaysWrongFalsely : Prop := callPlaysRow.holds Try.pinned (OpenSpec.ofChange callPlaysWrong)

/-- 'wharfingerlaw11.CallOnce': WHATEVER THE INPUT: true; the input reads as it did. -/
def callOnceSpec : ChangeSpec := { name := "callOnce", fn := fun _ => fun
  | [d1, d2, d3] => { results := [.lit (.bool true)], args := [d1, d2, d3] }
  | _ => none }
def callOnceRow : OpenClaim := { program := "ytpffbkbadnhmmaa", sum := "f8439183c1ba47af7be4d925140b861642959ed6e96f52f3eb0f9035787e645a", func := "wharfinger/wharfingerlaw11.CallOnce", spec := "callOnce", inPlace := ["maps.clone"], unfollowed := true, recurses := true, plainKeys := false, apart := false }
def CallOnceSaid : Prop := callOnceRow.holds Try.pinned (OpenSpec.ofChange callOnceSpec)

/-- ITS FALSE NEIGHBOUR: 'it returns false'. Refute it at one input. -/
def callOnceWrong : ChangeSpec := { name := "callOnce", fn := fun _ => fun
  | [d1, d2, d3] => { results := [.lit (.bool false)], args := [d1, d2, d3] }
  | _ => none }
def CallOnceWrongFalsely : Prop := callOnceRow.holds Try.pinned (OpenSpec.ofChange callOnceWrong)

/-- 'wharfingerlaw11.CallRefused': WHATEVER THE INPUT: true; the input reads as it did. -/
def callRefusedSpec : ChangeSpec := { name := "callRefused", fn := fun _ => fun
  | [d1, d2] => { results := [.lit (.bool true)], args := [d1, d2] }
  | _ => none }
def callRefusedRow : OpenClaim := { program := "ytpffbkbadnhmmaa", sum := "f8439183c1ba47af7be4d925140b861642959ed6e96f52f3eb0f9035787e645a", func := "wharfinger/wharfingerlaw11.CallRefused", spec := "callRefused", inPlace := ["maps.clone"], unfollowed := true, recurses := true, plainKeys := false, apart := false }
def CallRefusedSaid : Prop := callRefusedRow.holds Try.pinned (OpenSpec.ofChange callRefusedSpec)

/-- ITS FALSE NEIGHBOUR: 'it returns false'. Refute it at one input. -/
def callRefusedWrong : ChangeSpec := { name := "callRefused", fn := fun _ => fun
  | [d1, d2] => { results := [.lit (.bool false)], args := [d1, d2] }
  | _ => none }
def CallRefusedWrongFalsely : Prop := callRefusedRow.holds Try.pinned (OpenSpec.ofChange callRefusedWrong)

/-- 'wharfingerlaw11.CallNone': WHATEVER THE INPUT: true; the input reads as it did. -/
def callNoneSpec : ChangeSpec := { name := "callNone", fn := fun _ => fun
  | [d] => { results := [.lit (.bool true)], args := [d] }
  | _ => none }
def callNoneRow : OpenClaim := { program := "ytpffbkbadnhmmaa", sum := "f8439183c1ba47af7be4d925140b861642959ed6e96f52f3eb0f9035787e645a", func := "wharfinger/wharfingerlaw11.CallNone", spec := "callNone", inPlace := ["maps.clone"], unfollowed := true, recurses := true, plainKeys := false, apart := false }
def CallNoneSaid : Prop := callNoneRow.holds Try.pinned (OpenSpec.ofChange callNoneSpec)

/-- ITS FALSE NEIGHBOUR: 'it returns false'. Refute it at one input. -/
def callNoneWrong : ChangeSpec := { name := "callNone", fn := fun _ => fun
  | [d] => { results := [.lit (.bool false)], args := [d] }
  | _ => none }
def CallNoneWrongFalsely : Prop := callNoneRow.holds Try.pinned (OpenSpec.ofChange callNoneWrong)

/-- 'wharfingertop.TopNumbers': WHATEVER THE INPUT: true; the input reads as it did. -/
def topNumbersSpec : ChangeSpec := { name := "topNumbers", fn := fun _ => fun
  | [d] => { results := [.lit (.bool true)], args := [d] }
  | _ => none }
def topNumbersRow : OpenClaim := { program := "ytpffbkbadnhmmaa", sum := "f8439183c1ba47af7be4d925140b861642959ed6e96f52f3eb0f9035787e645a", func := "wharfinger/wharfingertop.TopNumbers", spec := "topNumbers", unfollowed := true, recurses := true, plainKeys := false, apart := false }
def TopNumbersSaid : Prop := topNumbersRow.holds Try.pinned (OpenSpec.ofChange topNumbersSpec)

/-- ITS FALSE NEIGHBOUR: 'it returns false'. Refute it at one input. -/
def topNumbersWrong : ChangeSpec := { name := "topNumbers", fn := fun _ => fun
  | [d] => { results := [.lit (.bool false)], args := [d] }
  | _ => none }
def TopNumbersWrongFalsely : Prop := topNumbersRow.holds Try.pinned (OpenSpec.ofChange topNumbersWrong)

/- THE SECOND FORM. 'bulk': how many values and letters a reading holds, each counted each time it is reached (what is shared counts as often as it is met; a slice's spare places count too). A statement '..UptoSaid' is the law's where the arguments, and the package variables that the reading takes, are together of bulk at most 1048576: NARROWER than '..Said'. Prove '..Said' where nothing that the law and all that it calls make is longer than what came in: it says more and counts as full. Else prove '..UptoSaid'. A law counts once. -/
mutual
def uptoBulk {H : Type} : DataW H → Nat
  | .lit (.string bytes) => bytes.length + 1
  | .lit _ => 1
  | .nil => 1
  | .ptr d => uptoBulk d + 1
  | .slice elems spare => uptoBulkAll elems + uptoBulkAll spare + 1
  | .agg parts => uptoBulkAll parts + 1
  | .iface _ d => uptoBulk d + 1
  | .map entries => uptoBulkEntries entries + 1
  | .held _ => 1
def uptoBulkAll {H : Type} : List (DataW H) → Nat
  | [] => 0
  | d :: r => uptoBulk d + uptoBulkAll r
def uptoBulkEntries {H : Type} : List (Lit × DataW H) → Nat
  | [] => 0
  | x :: r => uptoBulkEntry x + uptoBulkEntries r
def uptoBulkEntry {H : Type} : Lit × DataW H → Nat
  | (.string bytes, d) => bytes.length + uptoBulk d + 1
  | (_, d) => uptoBulk d + 1
 end
def uptoSmall : (H : Type) → List (DataW H) → Bool := fun _ ds => decide (uptoBulkAll ds ≤ 1048576)
def OpenSpec.upto (s : _root_.Go.ChangeSpec) : _root_.Go.OpenSpec := { _root_.Go.OpenSpec.ofChange s with cond := some uptoSmall }

/-- 'wharfingerlaw10.DriverZones', WHERE WHAT IT READS IS OF BULK AT MOST 1048576: true; the input reads as it did. -/
def driverZonesUptoRow : OpenClaim := { program := "ytpffbkbadnhmmaa", sum := "f8439183c1ba47af7be4d925140b861642959ed6e96f52f3eb0f9035787e645a", func := "wharfinger/wharfingerlaw10.DriverZones", spec := "driverZones", unfollowed := true, recurses := true, plainKeys := false, apart := false, narrowed := true }
def DriverZonesUptoSaid : Prop := driverZonesUptoRow.holds Try.pinned (OpenSpec.upto driverZonesSpec)

/-- 'wharfingerlaw10.DriverRoom', WHERE WHAT IT READS IS OF BULK AT MOST 1048576: true; the input reads as it did. -/
def driverRoomUptoRow : OpenClaim := { program := "ytpffbkbadnhmmaa", sum := "f8439183c1ba47af7be4d925140b861642959ed6e96f52f3eb0f9035787e645a", func := "wharfinger/wharfingerlaw10.DriverRoom", spec := "driverRoom", unfollowed := true, recurses := true, plainKeys := false, apart := false, narrowed := true }
def DriverRoomUptoSaid : Prop := driverRoomUptoRow.holds Try.pinned (OpenSpec.upto driverRoomSpec)

/-- 'wharfingerlaw10.DriverGrows', WHERE WHAT IT READS IS OF BULK AT MOST 1048576: true; the input reads as it did. -/
def driverGrowsUptoRow : OpenClaim := { program := "ytpffbkbadnhmmaa", sum := "f8439183c1ba47af7be4d925140b861642959ed6e96f52f3eb0f9035787e645a", func := "wharfinger/wharfingerlaw10.DriverGrows", spec := "driverGrows", unfollowed := true, recurses := true, plainKeys := false, apart := false, narrowed := true }
def DriverGrowsUptoSaid : Prop := driverGrowsUptoRow.holds Try.pinned (OpenSpec.upto driverGrowsSpec)

/-- 'wharfingerlaw10.DriverPlays', WHERE WHAT IT READS IS OF BULK AT MOST 1048576: true; the input reads as it did. -/
def driverPlaysUptoRow : OpenClaim := { program := "ytpffbkbadnhmmaa", sum := "f8439183c1ba47af7be4d925140b861642959ed6e96f52f3eb0f9035787e645a", func := "wharfinger/wharfingerlaw10.DriverPlays", spec := "driverPlays", unfollowed := true, recurses := true, plainKeys := false, apart := false, narrowed := true }
def DriverPlaysUptoSaid : Prop := driverPlaysUptoRow.holds Try.pinned (OpenSpec.upto driverPlaysSpec)

/-- 'wharfingerlaw10.DriverBegins', WHERE WHAT IT READS IS OF BULK AT MOST 1048576: true; the input reads as it did. -/
def driverBeginsUptoRow : OpenClaim := { program := "ytpffbkbadnhmmaa", sum := "f8439183c1ba47af7be4d925140b861642959ed6e96f52f3eb0f9035787e645a", func := "wharfinger/wharfingerlaw10.DriverBegins", spec := "driverBegins", unfollowed := true, recurses := true, plainKeys := false, apart := false, narrowed := true }
def DriverBeginsUptoSaid : Prop := driverBeginsUptoRow.holds Try.pinned (OpenSpec.upto driverBeginsSpec)

/-- 'wharfingerlaw10.DriverCuts', WHERE WHAT IT READS IS OF BULK AT MOST 1048576: true; the input reads as it did. -/
def driverCutsUptoRow : OpenClaim := { program := "ytpffbkbadnhmmaa", sum := "f8439183c1ba47af7be4d925140b861642959ed6e96f52f3eb0f9035787e645a", func := "wharfinger/wharfingerlaw10.DriverCuts", spec := "driverCuts", unfollowed := true, recurses := true, plainKeys := false, apart := false, narrowed := true }
def DriverCutsUptoSaid : Prop := driverCutsUptoRow.holds Try.pinned (OpenSpec.upto driverCutsSpec)

/-- 'wharfingerlaw10.DriverAgain', WHERE WHAT IT READS IS OF BULK AT MOST 1048576: true; the input reads as it did. -/
def driverAgainUptoRow : OpenClaim := { program := "ytpffbkbadnhmmaa", sum := "f8439183c1ba47af7be4d925140b861642959ed6e96f52f3eb0f9035787e645a", func := "wharfinger/wharfingerlaw10.DriverAgain", spec := "driverAgain", inPlace := ["maps.clone"], unfollowed := true, recurses := true, plainKeys := false, apart := false, narrowed := true }
def DriverAgainUptoSaid : Prop := driverAgainUptoRow.holds Try.pinned (OpenSpec.upto driverAgainSpec)

/-- 'wharfingerlaw10.DriverStale', WHERE WHAT IT READS IS OF BULK AT MOST 1048576: true; the input reads as it did. -/
def driverStaleUptoRow : OpenClaim := { program := "ytpffbkbadnhmmaa", sum := "f8439183c1ba47af7be4d925140b861642959ed6e96f52f3eb0f9035787e645a", func := "wharfinger/wharfingerlaw10.DriverStale", spec := "driverStale", inPlace := ["maps.clone"], unfollowed := true, recurses := true, plainKeys := false, apart := false, narrowed := true }
def DriverStaleUptoSaid : Prop := driverStaleUptoRow.holds Try.pinned (OpenSpec.upto driverStaleSpec)

/-- 'wharfingerlaw10.DriverForks', WHERE WHAT IT READS IS OF BULK AT MOST 1048576: true; the input reads as it did. -/
def driverForksUptoRow : OpenClaim := { program := "ytpffbkbadnhmmaa", sum := "f8439183c1ba47af7be4d925140b861642959ed6e96f52f3eb0f9035787e645a", func := "wharfinger/wharfingerlaw10.DriverForks", spec := "driverForks", inPlace := ["maps.clone"], unfollowed := true, recurses := true, plainKeys := false, apart := false, narrowed := true }
def DriverForksUptoSaid : Prop := driverForksUptoRow.holds Try.pinned (OpenSpec.upto driverForksSpec)

/-- 'wharfingerlaw10.DriverNone', WHERE WHAT IT READS IS OF BULK AT MOST 1048576: true; the input reads as it did. -/
def driverNoneUptoRow : OpenClaim := { program := "ytpffbkbadnhmmaa", sum := "f8439183c1ba47af7be4d925140b861642959ed6e96f52f3eb0f9035787e645a", func := "wharfinger/wharfingerlaw10.DriverNone", spec := "driverNone", inPlace := ["maps.clone"], unfollowed := true, recurses := true, plainKeys := false, apart := false, narrowed := true }
def DriverNoneUptoSaid : Prop := driverNoneUptoRow.holds Try.pinned (OpenSpec.upto driverNoneSpec)

/-- 'wharfingerlaw11.CallSent', WHERE WHAT IT READS IS OF BULK AT MOST 1048576: true; the input reads as it did. -/
def callSentUptoRow : OpenClaim := { program := "ytpffbkbadnhmmaa", sum := "f8439183c1ba47af7be4d925140b861642959ed6e96f52f3eb0f9035787e645a", func := "wharfinger/wharfingerlaw11.CallSent", spec := "callSent", unfollowed := true, recurses := true, plainKeys := false, apart := false, narrowed := true }
def CallSentUptoSaid : Prop := callSentUptoRow.holds Try.pinned (OpenSpec.upto callSentSpec)

/-- 'wharfingerlaw11.CallPlays', WHERE WHAT IT READS IS OF BULK AT MOST 1048576: true; the input reads as it did. -/
def callPlaysUptoRow : OpenClaim := { program := "ytpffbkbadnhmmaa", sum := "f8439183c1ba47af7be4d925140b861642959ed6e96f52f3eb0f9035787e645a", func := "wharfinger/wharfingerlaw11.CallPlays", spec := "callPlays", unfollowed := true, recurses := true, plainKeys := false, apart := false, narrowed := true }
def CallPlaysUptoSaid : Prop := callPlaysUptoRow.holds Try.pinned (OpenSpec.upto callPlaysSpec)

/-- 'wharfingerlaw11.CallOnce', WHERE WHAT IT READS IS OF BULK AT MOST 1048576: true; the input reads as it did. -/
def callOnceUptoRow : OpenClaim := { program := "ytpffbkbadnhmmaa", sum := "f8439183c1ba47af7be4d925140b861642959ed6e96f52f3eb0f9035787e645a", func := "wharfinger/wharfingerlaw11.CallOnce", spec := "callOnce", inPlace := ["maps.clone"], unfollowed := true, recurses := true, plainKeys := false, apart := false, narrowed := true }
def CallOnceUptoSaid : Prop := callOnceUptoRow.holds Try.pinned (OpenSpec.upto callOnceSpec)

/-- 'wharfingerlaw11.CallRefused', WHERE WHAT IT READS IS OF BULK AT MOST 1048576: true; the input reads as it did. -/
def callRefusedUptoRow : OpenClaim := { program := "ytpffbkbadnhmmaa", sum := "f8439183c1ba47af7be4d925140b861642959ed6e96f52f3eb0f9035787e645a", func := "wharfinger/wharfingerlaw11.CallRefused", spec := "callRefused", inPlace := ["maps.clone"], unfollowed := true, recurses := true, plainKeys := false, apart := false, narrowed := true }
def CallRefusedUptoSaid : Prop := callRefusedUptoRow.holds Try.pinned (OpenSpec.upto callRefusedSpec)

/-- 'wharfingerlaw11.CallNone', WHERE WHAT IT READS IS OF BULK AT MOST 1048576: true; the input reads as it did. -/
def callNoneUptoRow : OpenClaim := { program := "ytpffbkbadnhmmaa", sum := "f8439183c1ba47af7be4d925140b861642959ed6e96f52f3eb0f9035787e645a", func := "wharfinger/wharfingerlaw11.CallNone", spec := "callNone", inPlace := ["maps.clone"], unfollowed := true, recurses := true, plainKeys := false, apart := false, narrowed := true }
def CallNoneUptoSaid : Prop := callNoneUptoRow.holds Try.pinned (OpenSpec.upto callNoneSpec)

/-- 'wharfingertop.TopNumbers', WHERE WHAT IT READS IS OF BULK AT MOST 1048576: true; the input reads as it did. -/
def topNumbersUptoRow : OpenClaim := { program := "ytpffbkbadnhmmaa", sum := "f8439183c1ba47af7be4d925140b861642959ed6e96f52f3eb0f9035787e645a", func := "wharfinger/wharfingertop.TopNumbers", spec := "topNumbers", unfollowed := true, recurses := true, plainKeys := false, apart := false, narrowed := true }
def TopNumbersUptoSaid : Prop := topNumbersUptoRow.holds Try.pinned (OpenSpec.upto topNumbersSpec)

end Rows
end Go.Proofs.Ytpffbkbadnhmmaa
