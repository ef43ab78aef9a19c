/- The driver, plainly: deeds on both. -/
import Derived.Test.YtpffbkbadnhmmaaDPlay
set_option linter.unusedVariables false
set_option linter.unusedSimpArgs false
set_option maxRecDepth 100000
namespace Go.Proofs.Ytpffbkbadnhmmaa
open Go Go.Eng
abbrev JP := List XZone → List XVol → List XSnap → List XDone → Prop
structure Stays (J : JP) : Prop where
 do_ : ∀ (n : Nat) (b1 : List (ByteArray × Int)) (b2 : List (ByteArray × XVn)) (b3 : List (ByteArray × XSn)) (b4 : List (XTgt × XDone)) (z : List XZone) (v : List XVol) (s : List XSnap) (q : List XDone) (c : XCall), IV n b1 b2 b3 b4 z v s q → J z v s q → J (Z28 c z v s q).2.1 (Z28 c z v s q).2.2.1 (Z28 c z v s q).2.2.2.1 (Z28 c z v s q).2.2.2.2
 put : ∀ (n : Nat) (b1 : List (ByteArray × Int)) (b2 : List (ByteArray × XVn)) (b3 : List (ByteArray × XSn)) (b4 : List (XTgt × XDone)) (z : List XZone) (v : List XVol) (s : List XSnap) (q : List XDone) (name node : ByteArray) (tag : Int), IV n b1 b2 b3 b4 z v s q → J z v s q → J z (Z48 name node tag z v s q).2 s q
theorem Stays.deed {J : JP} (hJ : Stays J) {n : Nat} {b1 : List (ByteArray × Int)} {b2 : List (ByteArray × XVn)} {b3 : List (ByteArray × XSn)} {b4 : List (XTgt × XDone)} {z : List XZone} {v : List XVol} {s : List XSnap} {q : List XDone} (h : IV n b1 b2 b3 b4 z v s q) (hj : J z v s q) (x : XDeed) :
  J (Z8 x b1 b2 b3 b4 z v s q).2.2.2.2.2.1 (Z8 x b1 b2 b3 b4 z v s q).2.2.2.2.2.2.1 (Z8 x b1 b2 b3 b4 z v s q).2.2.2.2.2.2.2.1 (Z8 x b1 b2 b3 b4 z v s q).2.2.2.2.2.2.2.2 := by
 unfold Z8
 cases hc : (!(x.tag == (0 : Int))) with
 | true => exact hJ.put n b1 b2 b3 b4 z v s q _ _ _ h hj
 | false => exact hJ.do_ n b1 b2 b3 b4 z v s q x.c h hj
theorem stays_true : Stays fun _ _ _ _ => True := ⟨fun _ _ _ _ _ _ _ _ _ _ _ _ => trivial, fun _ _ _ _ _ _ _ _ _ _ _ _ _ _ => trivial⟩
theorem playL_ok {J : JP} (hJ : Stays J) (l : List XDeed) : ∀ (g i : Nat) (b1 : List (ByteArray × Int)) (b2 : List (ByteArray × XVn)) (b3 : List (ByteArray × XSn)) (b4 : List (XTgt × XDone)) (z : List XZone) (v : List XVol) (s : List XSnap) (q : List XDone), i + g = 60 → IV i b1 b2 b3 b4 z v s q → J z v s q →
  ∃ b1' b2' b3' b4' z' v' s' q', (Z1d l (g + 1) i b1 b2 b3 b4 z v s q).1 = false ∧ (Z1d l (g + 1) i b1 b2 b3 b4 z v s q).2.2.2.2.2.2.2.2.2 = (b1', b2', b3', b4', z', v', s', q') ∧ IV 60 b1' b2' b3' b4' z' v' s' q' ∧ J z' v' s' q'
 | 0, i, b1, b2, b3, b4, z, v, s, q, hi, h, hj => by
  unfold Z1d
  have : cond (decide ((i : Int) < (l.length : Int))) (decide ((i : Int) < (60 : Int))) false = false := by
   rw [decide_eq_false (by omega : ¬ (i : Int) < 60)]
   cases decide ((i : Int) < (l.length : Int)) <;> rfl
  rw [this]
  exact ⟨_, _, _, _, _, _, _, _, rfl, rfl, h.mono (by omega), hj⟩
 | g + 1, i, b1, b2, b3, b4, z, v, s, q, hi, h, hj => by
  unfold Z1d
  cases hc : cond (decide ((i : Int) < (l.length : Int))) (decide ((i : Int) < (60 : Int))) false with
  | false => exact ⟨_, _, _, _, _, _, _, _, rfl, rfl, h.mono (by omega), hj⟩
  | true =>
   obtain ⟨h1, h2⟩ := do_ok h (l.getD i default)
   simp only [cond_true, h1, Bool.not_true, cond_false]
   exact playL_ok hJ l g (i + 1) _ _ _ _ _ _ _ _ (by omega) h2 (hJ.deed h hj _)
theorem play_ok {J : JP} (hJ : Stays J) {n0 n1 n2 : Int} (h0 : U8 n0) (h1 : U8 n1) (h2 : U8 n2) (hj : J (Z2 n0 n1 n2) [] [] []) (l : List XDeed) :
  ∃ b1 b2 b3 b4 z v s q, Z0 n0 n1 n2 l = (true, b1, b2, b3, b4, z, v, s, q) ∧ IV 60 b1 b2 b3 b4 z v s q ∧ J z v s q := by
 have hz := zones_zv h0 h1 h2
 have hj' : J (Zc (Z2 n0 n1 n2)).2.1 (Zc (Z2 n0 n1 n2)).2.2.1 (Zc (Z2 n0 n1 n2)).2.2.2.1 (Zc (Z2 n0 n1 n2)).2.2.2.2 := by
  have hf := (rnew_flag _).2 hz
  unfold Zc at hf ⊢
  cases hc2 : cond (decide (((Z2 n0 n1 n2).length : Int) < (1 : Int))) true (decide (((Z2 n0 n1 n2).length : Int) > (16 : Int))) with
  | true => rw [hc2] at hf; cases hf
  | false =>
   rw [hc2] at hf
   simp only [cond_false] at hf ⊢
   cases hn2 : Z43 (Z2 n0 n1 n2) (Z2 n0 n1 n2) 0 with
   | true => rw [hn2] at hf; cases hf
   | false => exact hj
 obtain ⟨b1, b2, b3, b4, z, v, s, q, e1, e2, e3, e4⟩ := playL_ok hJ l 60 0 _ _ _ _ _ _ _ _ (by omega) (new_iv hz) hj'
 refine ⟨b1, b2, b3, b4, z, v, s, q, ?_, e3, e4⟩
 unfold Z0
 rw [e1, e2]
 rfl
theorem play_iv {n0 n1 n2 : Int} (h0 : U8 n0) (h1 : U8 n1) (h2 : U8 n2) (l : List XDeed) : IV 60 (Z0 n0 n1 n2 l).2.1 (Z0 n0 n1 n2 l).2.2.1 (Z0 n0 n1 n2 l).2.2.2.1 (Z0 n0 n1 n2 l).2.2.2.2.1 (Z0 n0 n1 n2 l).2.2.2.2.2.1 (Z0 n0 n1 n2 l).2.2.2.2.2.2.1 (Z0 n0 n1 n2 l).2.2.2.2.2.2.2.1 (Z0 n0 n1 n2 l).2.2.2.2.2.2.2.2 := by
 obtain ⟨b1, b2, b3, b4, z, v, s, q, e, h, _⟩ := play_ok stays_true h0 h1 h2 trivial l
 rw [e]
 exact h
theorem play_vb {n0 n1 n2 : Int} (h0 : U8 n0) (h1 : U8 n1) (h2 : U8 n2) (l : List XDeed) : VB (Z0 n0 n1 n2 l).2.2.1 := iv_vb ((play_iv h0 h1 h2 l).mono (by omega))
theorem play_do {n0 n1 n2 : Int} (h0 : U8 n0) (h1 : U8 n1) (h2 : U8 n2) (l : List XDeed) (c : XCall) : VB (Zb c (Z0 n0 n1 n2 l).2.1 (Z0 n0 n1 n2 l).2.2.1 (Z0 n0 n1 n2 l).2.2.2.1 (Z0 n0 n1 n2 l).2.2.2.2.1).2.2.1 := iv_vb ((iv_do (play_iv h0 h1 h2 l) c).2.mono (by omega))
theorem play_len {n0 n1 n2 : Int} (h0 : U8 n0) (h1 : U8 n1) (h2 : U8 n2) (l : List XDeed) : (Z17 (Z0 n0 n1 n2 l).2.1 (Z0 n0 n1 n2 l).2.2.1 (Z0 n0 n1 n2 l).2.2.2.1 (Z0 n0 n1 n2 l).2.2.2.2.1).length ≤ 1000 := by
 rw [Volumes_R (play_iv h0 h1 h2 l).1]
 exact iv_v (play_iv h0 h1 h2 l)
theorem play_nodes {n0 n1 n2 : Int} (h0 : U8 n0) (h1 : U8 n1) (h2 : U8 n2) (l : List XDeed) : ∀ x ∈ Z17 (Z0 n0 n1 n2 l).2.1 (Z0 n0 n1 n2 l).2.2.1 (Z0 n0 n1 n2 l).2.2.2.1 (Z0 n0 n1 n2 l).2.2.2.2.1, x.nodes.length ≤ 1000 := by
 rw [Volumes_R (play_iv h0 h1 h2 l).1]
 exact iv_nb ((play_iv h0 h1 h2 l).mono (by omega))
theorem play_dolen {n0 n1 n2 : Int} (h0 : U8 n0) (h1 : U8 n1) (h2 : U8 n2) (l : List XDeed) (c : XCall) : (Z17 (Zb c (Z0 n0 n1 n2 l).2.1 (Z0 n0 n1 n2 l).2.2.1 (Z0 n0 n1 n2 l).2.2.2.1 (Z0 n0 n1 n2 l).2.2.2.2.1).2.1 (Zb c (Z0 n0 n1 n2 l).2.1 (Z0 n0 n1 n2 l).2.2.1 (Z0 n0 n1 n2 l).2.2.2.1 (Z0 n0 n1 n2 l).2.2.2.2.1).2.2.1 (Zb c (Z0 n0 n1 n2 l).2.1 (Z0 n0 n1 n2 l).2.2.1 (Z0 n0 n1 n2 l).2.2.2.1 (Z0 n0 n1 n2 l).2.2.2.2.1).2.2.2.1 (Zb c (Z0 n0 n1 n2 l).2.1 (Z0 n0 n1 n2 l).2.2.1 (Z0 n0 n1 n2 l).2.2.2.1 (Z0 n0 n1 n2 l).2.2.2.2.1).2.2.2.2).length ≤ 1000 := by
 have h := (iv_do (play_iv h0 h1 h2 l) c).2
 rw [Volumes_R h.1]
 exact iv_v h
theorem live_true : Z6a = true := by
 have h := ((iv_do (iv_do (new_iv live_zv) liveC).2 liveC).2).1
 unfold Z6a
 simp only [kPl0, kPl2, kPl3, kPl4]
 rw [Volumes_R h]
 show _ = true
 kernel_rfl
end Go.Proofs.Ytpffbkbadnhmmaa
