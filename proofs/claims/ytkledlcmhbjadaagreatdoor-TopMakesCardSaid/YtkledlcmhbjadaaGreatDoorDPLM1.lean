/- The law TopMakes, plainly: how far the claim may be; each round keeps it so, and brings it on where the call is done. -/
import Derived.Test.YtkledlcmhbjadaaGreatDoorDPLM0
set_option linter.unusedVariables false
set_option linter.unusedSimpArgs false
set_option maxRecDepth 100000
namespace Go.Proofs.YtkledlcmhbjadaaGreatDoor
open Go Go.Eng
inductive MS (s : Int) : Nat → Nat → Int → List XObj → List XCall → List (ByteArray × Int) → List (ByteArray × XVn) → List (ByteArray × XSn) → List (XTgt × XDone) → Prop
 | pend (i : Nat) (v ver num : Int) (p : List XCall) (hv : 1 ≤ v ∧ v ≤ i + 1) (hp : p.length ≤ i) : MS s 3 i v [cls, clm s ver 0 m0 m0 1 num] p (dB1 1000) [] [] []
 | pendF (i : Nat) (v ver num m : Int) (p : List XCall) (hv : 1 ≤ v ∧ v ≤ i + 1) (hp : p.length ≤ i) (hm : m ≤ v) : MS s 3 i v [cls, clm s ver 0 m0 m0 1 num] p (dB1 (1000 - s)) (dB2 s) [] (dB4 s m)
 | make (i : Nat) (v ver num : Int) (p : List XCall) (hv : 1 ≤ v ∧ v ≤ i + 1) (hp : p.length ≤ i) (hn : 1 ≤ num ∧ num ≤ v) : MS s 2 i v (mL s ver num) p (dB1 1000) [] [] []
 | makeF (i : Nat) (v ver num m : Int) (p : List XCall) (hv : 1 ≤ v ∧ v ≤ i + 1) (hp : p.length ≤ i) (hn : 1 ≤ num ∧ num ≤ v) (hm : m ≤ num) : MS s 2 i v (mL s ver num) p (dB1 (1000 - s)) (dB2 s) [] (dB4 s m)
 | have_ (i : Nat) (v ver num ver2 m : Int) (p : List XCall) (hv : 1 ≤ v ∧ v ≤ i + 1) (hp : p.length ≤ i) : MS s 1 i v [cls, clm s ver 0 mZ m0 2 num, vob s ver2] p (dB1 (1000 - s)) (dB2 s) [] (dB4 s m)
 | bound (i : Nat) (v ver ver2 m : Int) (p : List XCall) (hv : 1 ≤ v ∧ v ≤ i + 1) (hp : p.length ≤ i) : MS s 0 i v [cls, clm s ver s mZ mT 3 0, vob s ver2] p (dB1 (1000 - s)) (dB2 s) [] (dB4 s m)
section
variable {s : Int} {k i : Nat} {v : Int} {L : List XObj} {p : List XCall} {b1 : List (ByteArray × Int)} {b2 : List (ByteArray × XVn)} {b3 : List (ByteArray × XSn)} {b4 : List (XTgt × XDone)}
abbrev mA (v : Int) (L : List XObj) : XAct := Z0 v mC L
abbrev mS (o v : Int) (L : List XObj) (p : List XCall) (b1 : List (ByteArray × Int)) (b2 : List (ByteArray × XVn)) (b3 : List (ByteArray × XSn)) (b4 : List (XTgt × XDone)) := Z3 (mA v L).call o p b1 b2 b3 b4
abbrev mX (o v : Int) (L : List XObj) (p : List XCall) (b1 : List (ByteArray × Int)) (b2 : List (ByteArray × XVn)) (b3 : List (ByteArray × XSn)) (b4 : List (XTgt × XDone)) : XAct := Za v ⟨3, mC⟩ (mA v L).call (mS o v L p b1 b2 b3 b4).1 L
theorem vwrap {i : Nat} (h : 1 ≤ v ∧ v ≤ i + 1) (hi : i < 30) : IntKind.u64.wrap (v + 1) = v + 1 := wrap_u64 (by omega) (by omega)
theorem MS.two (h : MS s k i v L p b1 b2 b3 b4) : 2 ≤ L.length ∧ L.length ≤ 3 := by cases h <;> simp
theorem MS.one (h : MS s k i v L p b1 b2 b3 b4) : b2.length ≤ 1 := by cases h <;> simp
theorem MS.rank (h : MS s k i v L p b1 b2 b3 b4) : k ≤ 3 := by cases h <;> omega
theorem MS.vb (h : MS s k i v L p b1 b2 b3 b4) : VB b2 := by
 have h7 : mT.size ≤ maxLen := Nat.le_trans (by decide : mT.size ≤ 40) (by unfold maxLen; omega)
 cases h <;> exact ⟨⟨by simp, by simp [h7]⟩, by simp [NK]⟩
theorem MS.fine (h : MS s k i v L p b1 b2 b3 b4) : ∀ o ∈ L, o.Fine := by
 have h1 : ∀ s ver got zone vol ph num, zone.size ≤ 40 → vol.size ≤ 40 → (clm s ver got zone vol ph num).Fine := fun s ver got zone vol ph num h1 h2 => ⟨by show mC.size ≤ _; decide, by show (0 : Int) ≤ 1; decide, by show (1 : Int) ≤ _; decide, by show mF.size ≤ _; decide, by show zone.size ≤ _; omega, by show m0.size ≤ _; decide, by show m0.size ≤ _; decide, by show vol.size ≤ _; omega, by show m0.size ≤ _; decide⟩
 have h2 : cls.Fine := by decide
 have h3 : ∀ s ver, (vob s ver).Fine := fun s ver => ⟨by show mT.size ≤ _; decide, by show (0 : Int) ≤ 0; decide, by show (0 : Int) ≤ _; decide, by show mF.size ≤ _; decide, by show mZ.size ≤ _; decide, by show m0.size ≤ _; decide, by show mR.size ≤ _; decide, by show m0.size ≤ _; decide, by show m0.size ≤ _; decide⟩
 cases h <;> simp only [List.mem_cons, List.not_mem_nil, or_false, forall_eq_or_imp, forall_eq] <;> first | exact ⟨h2, h1 _ _ _ _ _ _ _ (by decide) (by decide)⟩ | exact ⟨h2, h1 _ _ _ _ _ _ _ (by decide) (by decide), h3 _ _⟩
theorem cs_make (s n : Int) : CS (mkc s n) := ⟨by show mT.size < _; decide, by show mZ.size < _; decide, by show m0.size < _; decide, by show m0.size < _; decide⟩
theorem cs_no : CS default := by decide
theorem MS.cs (h : MS s k i v L p b1 b2 b3 b4) : CS (mA v L).call := by
 cases h with
 | pend i v ver num p hv hp => rw [mA, Zba]; exact cs_no
 | pendF i v ver num m p hv hp hm => rw [mA, Zba]; exact cs_no
 | make i v ver num p hv hp hn => rw [mA, Zbb]; exact cs_make _ _
 | makeF i v ver num m p hv hp hn hm => rw [mA, Zbb]; exact cs_make _ _
 | have_ i v ver num ver2 m p hv hp => rw [mA, Z1c1]; exact cs_no
 | bound i v ver ver2 m p hv hp => rw [mA, Z15d]; exact cs_no
theorem MS.ask (h : MS s k i v L p b1 b2 b3 b4) (hs : 1 ≤ s ∧ s ≤ 256) (hi : i < 30) {o : Int} (ho : o = 0 ∨ o = 1 ∨ o = 2 ∨ o = 3) (h1 : ((mA v L).act == 3) = true) :
  (mS o v L p b1 b2 b3 b4).1.zone.size ≤ 40 ∧
  ((((mX o v L p b1 b2 b3 b4).act == 1) = false ∧ o ≠ 0 ∧ MS s k (i + 1) v L (mS o v L p b1 b2 b3 b4).2.2.2.2.2 (mS o v L p b1 b2 b3 b4).2.1 (mS o v L p b1 b2 b3 b4).2.2.1 (mS o v L p b1 b2 b3 b4).2.2.2.1 (mS o v L p b1 b2 b3 b4).2.2.2.2.1) ∨
   (((mX o v L p b1 b2 b3 b4).act == 1) = true ∧ ((mX o v L p b1 b2 b3 b4).obj.kind == 3) = true ∧ o ≠ 0 ∧ MS s 3 (i + 1) (IntKind.u64.wrap (v + 1)) (L.set 1 { (mX o v L p b1 b2 b3 b4).obj with version := IntKind.u64.wrap (v + 1) }) (mS o v L p b1 b2 b3 b4).2.2.2.2.2 (mS o v L p b1 b2 b3 b4).2.1 (mS o v L p b1 b2 b3 b4).2.2.1 (mS o v L p b1 b2 b3 b4).2.2.2.1 (mS o v L p b1 b2 b3 b4).2.2.2.2.1) ∨
   (((mX o v L p b1 b2 b3 b4).act == 1) = true ∧ ((mX o v L p b1 b2 b3 b4).obj.kind == 3) = false ∧ MS s (k - 1) (i + 1) (IntKind.u64.wrap (v + 1)) (L ++ [{ (mX o v L p b1 b2 b3 b4).obj with version := IntKind.u64.wrap (v + 1) }]) (mS o v L p b1 b2 b3 b4).2.2.2.2.2 (mS o v L p b1 b2 b3 b4).2.1 (mS o v L p b1 b2 b3 b4).2.2.1 (mS o v L p b1 b2 b3 b4).2.2.2.1 (mS o v L p b1 b2 b3 b4).2.2.2.2.1)) := by
 have hz : mZ.size ≤ 40 := by decide
 have hz0 : m0.size ≤ 40 := by decide
 cases h with
 | pend i v ver num p hv hp => simp only [mA, Zba] at h1; cases h1
 | pendF i v ver num m p hv hp hm => simp only [mA, Zba] at h1; cases h1
 | have_ i v ver num ver2 m p hv hp => simp only [mA, Z1c1] at h1; cases h1
 | bound i v ver ver2 m p hv hp => simp only [mA, Z15d] at h1; cases h1
 | make i v ver num p hv hp hn =>
  have hl : (p ++ [mkc s num]).length ≤ i + 1 := by simp; omega
  have hw := vwrap hv hi
  unfold mX mS
  simp only [mA, Zbb]
  rcases ho with rfl | rfl | rfl | rfl
  · rw [send_0 hs hn.1 (by omega), do_first hs hn.1]
    simp only [after_ok]
    exact ⟨hz, .inr (.inr ⟨rfl, rfl, by rw [hw]; exact .have_ _ _ _ _ _ _ _ (by omega) hl⟩)⟩
  · rw [send_1 hs hn.1 (by omega)]
    simp only [after_busy, hw]
    exact ⟨hz0, .inr (.inl ⟨rfl, rfl, by decide, .pend _ _ _ _ _ (by omega) hl⟩)⟩
  · rw [send_2 hs hn.1 (by omega), do_first hs hn.1]
    simp only [Z1c3]
    exact ⟨hz0, .inl ⟨rfl, by decide, .makeF _ _ _ _ _ _ (by omega) hl hn (Int.le_refl _)⟩⟩
  · rw [send_3 hs hn.1 (by omega)]
    simp only [Z1c3]
    exact ⟨hz0, .inl ⟨rfl, by decide, .make _ _ _ _ _ (by omega) hl hn⟩⟩
 | makeF i v ver num m p hv hp hn hm =>
  have hl : (p ++ [mkc s num]).length ≤ i + 1 := by simp; omega
  have hw := vwrap hv hi
  unfold mX mS
  simp only [mA, Zbb]
  rcases ho with rfl | rfl | rfl | rfl
  · rw [send_0 hs hn.1 (by omega), do_more hs hn.1 hm]
    simp only [after_ok]
    exact ⟨hz, .inr (.inr ⟨rfl, rfl, by rw [hw]; exact .have_ _ _ _ _ _ _ _ (by omega) hl⟩)⟩
  · rw [send_1 hs hn.1 (by omega)]
    simp only [after_busy, hw]
    exact ⟨hz0, .inr (.inl ⟨rfl, rfl, by decide, .pendF _ _ _ _ _ _ (by omega) hl (by omega)⟩)⟩
  · rw [send_2 hs hn.1 (by omega), do_more hs hn.1 hm]
    simp only [Z1c3]
    exact ⟨hz0, .inl ⟨rfl, by decide, .makeF _ _ _ _ _ _ (by omega) hl hn (Int.le_refl _)⟩⟩
  · rw [send_3 hs hn.1 (by omega)]
    simp only [Z1c3]
    exact ⟨hz0, .inl ⟨rfl, by decide, .makeF _ _ _ _ _ _ (by omega) hl hn hm⟩⟩
theorem MS.tell (h : MS s k i v L p b1 b2 b3 b4) (hi : i < 30) (h1 : ((mA v L).act == 3) = false) :
  (((mA v L).act == 1) = false ∧ k = 0 ∧ MS s 0 (i + 1) v L p b1 b2 b3 b4) ∨
  (((mA v L).act == 1) = true ∧ ((mA v L).obj.kind == 3) = true ∧ MS s (k - 1) (i + 1) (IntKind.u64.wrap (v + 1)) (L.set 1 { (mA v L).obj with version := IntKind.u64.wrap (v + 1) }) p b1 b2 b3 b4) := by
 cases h with
 | pend i v ver num p hv hp =>
  have hw := vwrap hv hi
  simp only [mA, Zba, hw]
  exact .inr ⟨rfl, rfl, .make (i + 1) (v + 1) (v + 1) (v + 1) p (by omega) (by omega) (by omega)⟩
 | pendF i v ver num m p hv hp hm =>
  have hw := vwrap hv hi
  simp only [mA, Zba, hw]
  exact .inr ⟨rfl, rfl, .makeF (i + 1) (v + 1) (v + 1) (v + 1) m p (by omega) (by omega) (by omega) (by omega)⟩
 | make i v ver num p hv hp hn => simp only [mA, Zbb] at h1; cases h1
 | makeF i v ver num m p hv hp hn hm => simp only [mA, Zbb] at h1; cases h1
 | have_ i v ver num ver2 m p hv hp =>
  have hw := vwrap hv hi
  simp only [mA, Z1c1, hw]
  exact .inr ⟨rfl, rfl, .bound (i + 1) (v + 1) (v + 1) ver2 m p (by omega) (by omega)⟩
 | bound i v ver ver2 m p hv hp =>
  exact .inl ⟨by rw [mA, Z15d]; rfl, rfl, .bound (i + 1) v ver ver2 m p (by omega) (by omega)⟩
theorem Zbd {i : Nat} {l : List Int} (h : decide ((i : Int) < (l.length : Int)) = true) : i < l.length := by have := of_decide_eq_true h; omega
theorem Z139 {i : Nat} (h : decide ((i : Int) < (30 : Int)) = true) : i < 30 := by have := of_decide_eq_true h; omega
theorem MS.tsz (h : MS s k i v L p b1 b2 b3 b4) : (mA v L).call.target.size ≤ 40 := by
 have h0 : (default : XCall).target.size ≤ 40 := by decide
 have h1 : ∀ n, (mkc s n).target.size ≤ 40 := fun n => by show mT.size ≤ _; decide
 cases h with
 | pend i v ver num p hv hp => rw [mA, Zba]; exact h0
 | pendF i v ver num m p hv hp hm => rw [mA, Zba]; exact h0
 | make i v ver num p hv hp hn => rw [mA, Zbb]; exact h1 _
 | makeF i v ver num m p hv hp hn hm => rw [mA, Zbb]; exact h1 _
 | have_ i v ver num ver2 m p hv hp => rw [mA, Z1c1]; exact h0
 | bound i v ver ver2 m p hv hp => rw [mA, Z15d]; exact h0
theorem tm4 {x : Int} (h : 0 ≤ x ∧ x ≤ 255) : x.tmod 4 = 0 ∨ x.tmod 4 = 1 ∨ x.tmod 4 = 2 ∨ x.tmod 4 = 3 := by
 obtain ⟨n, rfl⟩ := Int.eq_ofNat_of_zero_le h.1
 have : (n : Int).tmod 4 = ((n % 4 : Nat) : Int) := by rfl
 omega
def mSz (a : Int) : Int := IntKind.i64.wrap (IntKind.i64.wrap a + 1)
theorem mSz_eq {a : Int} (h : 0 ≤ a ∧ a ≤ 255) : mSz a = a + 1 := by
 unfold mSz
 rw [Z27d (n := a) (by omega) (by omega), Z27d (by omega) (by omega)]
theorem Z92 {a : Int} (h : 0 ≤ a ∧ a ≤ 255) : 1 ≤ mSz a ∧ mSz a ≤ 256 := by rw [mSz_eq h]; omega
theorem ms_start {s : Int} : MS s 3 0 1 [cls, clm s 1 0 m0 m0 1 0] [] (dB1 1000) [] [] [] := .pend _ _ _ _ _ (by omega) (Nat.le_refl _)
variable (h : MS s k i v L p b1 b2 b3 b4) (hs : 1 ≤ s ∧ s ≤ 256) (hi : i < 30) {o : Int} (ho : o = 0 ∨ o = 1 ∨ o = 2 ∨ o = 3)
include h hi
section
include hs ho
theorem ms_zone (h1 : ((mA v L).act == 3) = true) : (mS o v L p b1 b2 b3 b4).1.zone.size ≤ 40 := (h.ask hs hi ho h1).1
theorem Z159 (h1 : ((mA v L).act == 3) = true) (h2 : (!((mX o v L p b1 b2 b3 b4).act == 1)) = true) : ∃ k, MS s k (i + 1) v L (mS o v L p b1 b2 b3 b4).2.2.2.2.2 (mS o v L p b1 b2 b3 b4).2.1 (mS o v L p b1 b2 b3 b4).2.2.1 (mS o v L p b1 b2 b3 b4).2.2.2.1 (mS o v L p b1 b2 b3 b4).2.2.2.2.1 := by
 rcases (h.ask hs hi ho h1).2 with ⟨_, _, h5⟩ | ⟨h3, _⟩ | ⟨h3, _⟩
 · exact ⟨_, h5⟩
 · rw [h3] at h2; cases h2
 · rw [h3] at h2; cases h2
theorem Z158 (h1 : ((mA v L).act == 3) = true) (h2 : (!((mX o v L p b1 b2 b3 b4).act == 1)) = false) (h3 : ((mX o v L p b1 b2 b3 b4).obj.kind == 3) = true) : ∃ k, MS s k (i + 1) (IntKind.u64.wrap (v + 1)) (L.set 1 { (mX o v L p b1 b2 b3 b4).obj with version := IntKind.u64.wrap (v + 1) }) (mS o v L p b1 b2 b3 b4).2.2.2.2.2 (mS o v L p b1 b2 b3 b4).2.1 (mS o v L p b1 b2 b3 b4).2.2.1 (mS o v L p b1 b2 b3 b4).2.2.2.1 (mS o v L p b1 b2 b3 b4).2.2.2.2.1 := by
 rcases (h.ask hs hi ho h1).2 with ⟨h4, _⟩ | ⟨_, _, _, h5⟩ | ⟨_, h4, _⟩
 · rw [h4] at h2; cases h2
 · exact ⟨_, h5⟩
 · rw [h4] at h3; cases h3
theorem Z157 (h1 : ((mA v L).act == 3) = true) (h2 : (!((mX o v L p b1 b2 b3 b4).act == 1)) = false) (h3 : ((mX o v L p b1 b2 b3 b4).obj.kind == 3) = false) : ∃ k, MS s k (i + 1) (IntKind.u64.wrap (v + 1)) (L ++ [{ (mX o v L p b1 b2 b3 b4).obj with version := IntKind.u64.wrap (v + 1) }]) (mS o v L p b1 b2 b3 b4).2.2.2.2.2 (mS o v L p b1 b2 b3 b4).2.1 (mS o v L p b1 b2 b3 b4).2.2.1 (mS o v L p b1 b2 b3 b4).2.2.2.1 (mS o v L p b1 b2 b3 b4).2.2.2.2.1 := by
 rcases (h.ask hs hi ho h1).2 with ⟨h4, _⟩ | ⟨_, h4, _⟩ | ⟨_, _, h5⟩
 · rw [h4] at h2; cases h2
 · rw [h4] at h3; cases h3
 · exact ⟨_, h5⟩
end
theorem Zf5 (h1 : ((mA v L).act == 3) = false) (h2 : (!((mA v L).act == 1)) = true) : ∃ k, MS s k (i + 1) v L p b1 b2 b3 b4 := by
 rcases h.tell hi h1 with ⟨_, _, h5⟩ | ⟨h3, _⟩
 · exact ⟨_, h5⟩
 · rw [h3] at h2; cases h2
theorem Zf4 (h1 : ((mA v L).act == 3) = false) (h2 : (!((mA v L).act == 1)) = false) : ∃ k, MS s k (i + 1) (IntKind.u64.wrap (v + 1)) (L.set 1 { (mA v L).obj with version := IntKind.u64.wrap (v + 1) }) p b1 b2 b3 b4 := by
 rcases h.tell hi h1 with ⟨h3, _⟩ | ⟨_, _, h5⟩
 · rw [h3] at h2; cases h2
 · exact ⟨_, h5⟩
theorem Zf3 (h1 : ((mA v L).act == 3) = false) (h2 : (!((mA v L).act == 1)) = false) (h3 : ((mA v L).obj.kind == 3) = false) : False := by
 rcases h.tell hi h1 with ⟨h4, _⟩ | ⟨_, h4, _⟩
 · rw [h4] at h2; cases h2
 · rw [h4] at h3; cases h3
end
end Go.Proofs.YtkledlcmhbjadaaGreatDoor
