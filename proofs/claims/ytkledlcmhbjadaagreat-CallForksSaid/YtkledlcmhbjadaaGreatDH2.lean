/- The document's driver: by hand: what was seen stays where a call is done. -/
import Derived.Test.YtkledlcmhbjadaaGreatDRActs
set_option linter.unusedVariables false
set_option linter.unusedSimpArgs false
set_option maxRecDepth 100000
namespace Go.Proofs.YtkledlcmhbjadaaGreat
open Go Go.Eng
theorem seenP {α β γ δ ε : Type} {e : ε} {c : Bool} {x y : α × β × γ × δ × ε} (hx : x.2.2.2.2 = e) (hy : y.2.2.2.2 = e) : (cond c x y).2.2.2.2 = e := by cases c <;> assumption
theorem create_seen (a1 : XCall) (b1 : LZ) (b2 : LV) (b3 : LS) (b4 : LQ) : (Zc a1 b1 b2 b3 b4).2.2.2.2 = b4 := by
 unfold Zc
 repeat' (first | exact rfl | refine seenP ?_ ?_)
theorem cut_seen (a1 : XCall) (b1 : LZ) (b2 : LV) (b3 : LS) (b4 : LQ) : (Z33 a1 b1 b2 b3 b4).2.2.2.2 = b4 := by
 unfold Z33
 repeat' (first | exact rfl | refine seenP ?_ ?_)
theorem Z228 (a1 : XCall) (b1 : LZ) (b2 : LV) (b3 : LS) (b4 : LQ) : (Z17 a1 b1 b2 b3 b4).2.2.2.2 = b4 := by
 unfold Z17
 repeat' (first | exact rfl | exact create_seen _ _ _ _ _ | exact cut_seen _ _ _ _ _ | refine seenP ?_ ?_)
end Go.Proofs.YtkledlcmhbjadaaGreat
