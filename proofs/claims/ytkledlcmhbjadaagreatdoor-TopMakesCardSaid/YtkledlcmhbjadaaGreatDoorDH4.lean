/- By hand: what a world whose values are known answers is decided. -/
import Derived.Test.YtkledlcmhbjadaaGreatDoorDCallC
import Derived.Test.YtkledlcmhbjadaaGreatDoorDAfter
set_option linter.unusedVariables false
set_option linter.unusedSimpArgs false
set_option maxRecDepth 100000
namespace Go.Proofs.YtkledlcmhbjadaaGreatDoor
open Go Go.Eng
instance {β : Type} (ns : List (ByteArray × β)) : Decidable (NK ns) := by unfold NK; infer_instance
instance (es : List (ByteArray × XVn)) : Decidable (VB es) := by unfold VB; infer_instance
instance (c : XCall) : Decidable (CS c) := by unfold CS; infer_instance
theorem itLF_len (b2 : List (ByteArray × XVn)) : ∀ (l : List ByteArray) (v : List XVol), (Z44 b2 l v).length = v.length + l.length
 | [], v => rfl
 | o :: r, v => by
  unfold Z44
  rw [itLF_len b2 r]
  simp only [List.length_append, List.length_cons, List.length_nil]
  omega
theorem vols_len (b1 : List (ByteArray × Int)) (b2 : List (ByteArray × XVn)) (b3 : List (ByteArray × XSn)) (b4 : List (XTgt × XDone)) : (Z70 b1 b2 b3 b4).length = b2.length := by
 unfold Z70
 rw [itLF_len, Z187, List.length_map, List.length_nil, Nat.zero_add]
end Go.Proofs.YtkledlcmhbjadaaGreatDoor
