/- The law TopMakes, plainly. -/
import Derived.Test.YtkledlcmhbjadaaGreatDoorDLawMakes
set_option linter.unusedVariables false
set_option linter.unusedSimpArgs false
set_option maxRecDepth 100000
namespace Go.Proofs.YtkledlcmhbjadaaGreatDoor
open Go Go.Eng
theorem vols_one (b1 : List (ByteArray × Int)) (s : Int) (b3 : List (ByteArray × XSn)) (b4 : List (XTgt × XDone)) : Z70 b1 (dB2 s) b3 b4 = [⟨mT, s, mZ, 0, []⟩] := by
 have h1 : Z39 [mT] = [mT] := by simp [Z39]
 have h2 : Z39 [] = [] := by simp [Z39]
 unfold Z70
 show Z44 (dB2 s) (Z39 [mT]) [] = _
 rw [h1]
 show [(⟨mT, s, mZ, 0, Z1d (Z39 []) []⟩ : XVol)] = _
 rw [h2]
 rfl
def mFin (s : Int) (l : List Int) (L : List XObj) (V : List XVol) : Bool :=
 cond (decide ((l.length : Int) > (20 : Int)))
  (cond (cond (decide ((L.length : Int) ≥ (2 : Int))) true false) (decide ((V.length : Int) ≤ (1 : Int))) false)
  (cond (cond (cond (cond ((L.length : Int) == (3 : Int)) ((L.getD 1 default).phase == (3 : Int)) false) (decide ((L.getD 1 default).volume = mT)) false) ((V.length : Int) == (1 : Int)) false) ((V.getD 0 default).size == s) false)
theorem makes_fin (a : Int) (l : List Int) : Zb3 a l = mFin (mSz a) l (kMa0 l a).1 (Z70 (kMa0 l a).2.2.1 (kMa0 l a).2.2.2.1 (kMa0 l a).2.2.2.2.1 (kMa0 l a).2.2.2.2.2) := by kernel_rfl
theorem makes_true {a : Int} {l : List Int} (ha : 0 ≤ a ∧ a ≤ 255) (hl : ∀ x ∈ l, 0 ≤ x ∧ x ≤ 255) : Zb3 a l = true := by
 obtain ⟨k, v, h, hk⟩ := Z18e ha hl
 rw [makes_fin]
 generalize hx : kMa0 l a = x
 replace h : MS (mSz a) k 30 v x.1 x.2.1 x.2.2.1 x.2.2.2.1 x.2.2.2.2.1 x.2.2.2.2.2 := by rw [← hx]; exact h
 clear hx
 obtain ⟨L, p, b1, b2, b3, b4⟩ := x
 have h2 : 2 ≤ L.length ∧ L.length ≤ 3 := h.two
 have h3 : b2.length ≤ 1 := h.one
 have h4 := vols_len b1 b2 b3 b4
 unfold mFin
 show cond _ (cond (cond (decide ((L.length : Int) ≥ (2 : Int))) true false) (decide (((Z70 b1 b2 b3 b4).length : Int) ≤ (1 : Int))) false) _ = true
 cases hc : decide ((l.length : Int) > (20 : Int)) with
 | true =>
  rw [h4, decide_eq_true (by omega : (L.length : Int) ≥ 2), decide_eq_true (by omega : (b2.length : Int) ≤ 1)]
  rfl
 | false =>
  have h5 := hk (by have := of_decide_eq_false hc; omega)
  subst h5
  cases h with
  | bound i v ver ver2 m p hv hp =>
   show cond (cond _ (((Z70 (dB1 (1000 - mSz a)) (dB2 (mSz a)) [] (dB4 (mSz a) m)).length : Int) == (1 : Int)) false) (((Z70 (dB1 (1000 - mSz a)) (dB2 (mSz a)) [] (dB4 (mSz a) m)).getD 0 default).size == mSz a) false = true
   rw [vols_one]
   show (mSz a == mSz a) = true
   exact beq_self_eq_true _
end Go.Proofs.YtkledlcmhbjadaaGreatDoor
