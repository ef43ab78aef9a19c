/- The driver, plainly: deeds on both. -/
import Derived.Test.YtpffbkbadnhmmaaDPlay
set_option linter.unusedVariables false
set_option linter.unusedSimpArgs false
set_option maxRecDepth 100000
namespace Go.Proofs.Ytpffbkbadnhmmaa
open Go Go.Eng
abbrev JP := List XZone → List XVol → List XSnap → List XDone → Prop
structure Stays (J : JP) : Prop where
 do_ : ∀ (n : Nat) (b1 : List (ByteArray × Int)) (b2 : List (ByteArray × XVn)) (b3 : List (ByteArray × XSn)) (b4 : List (XTgt × XDone)) (z : List XZone) (v : List XVol) (s : List XSnap) (q : List XDone) (c : XCall), IV n b1 b2 b3 b4 z v s q → J z v s q → J (rD_DoF c z v s q).2.1 (rD_DoF c z v s q).2.2.1 (rD_DoF c z v s q).2.2.2.1 (rD_DoF c z v s q).2.2.2.2
 put : ∀ (n : Nat) (b1 : List (ByteArray × Int)) (b2 : List (ByteArray × XVn)) (b3 : List (ByteArray × XSn)) (b4 : List (XTgt × XDone)) (z : List XZone) (v : List XVol) (s : List XSnap) (q : List XDone) (name node : ByteArray) (tag : Int), IV n b1 b2 b3 b4 z v s q → J z v s q → J z (rD_PutF name node tag z v s q).2 s q
theorem Stays.deed {J : JP} (hJ : Stays J) {n : Nat} {b1 : List (ByteArray × Int)} {b2 : List (ByteArray × XVn)} {b3 : List (ByteArray × XSn)} {b4 : List (XTgt × XDone)} {z : List XZone} {v : List XVol} {s : List XSnap} {q : List XDone} (h : IV n b1 b2 b3 b4 z v s q) (hj : J z v s q) (x : XDeed) :
  J (w10_doF x b1 b2 b3 b4 z v s q).2.2.2.2.2.1 (w10_doF x b1 b2 b3 b4 z v s q).2.2.2.2.2.2.1 (w10_doF x b1 b2 b3 b4 z v s q).2.2.2.2.2.2.2.1 (w10_doF x b1 b2 b3 b4 z v s q).2.2.2.2.2.2.2.2 := by
 unfold w10_doF
 cases hc : (!(x.tag == (0 : Int))) with
 | true => exact hJ.put n b1 b2 b3 b4 z v s q _ _ _ h hj
 | false => exact hJ.do_ n b1 b2 b3 b4 z v s q x.c h hj
theorem stays_true : Stays fun _ _ _ _ => True := ⟨fun _ _ _ _ _ _ _ _ _ _ _ _ => trivial, fun _ _ _ _ _ _ _ _ _ _ _ _ _ _ => trivial⟩
theorem playL_ok {J : JP} (hJ : Stays J) (l : List XDeed) : ∀ (g i : Nat) (b1 : List (ByteArray × Int)) (b2 : List (ByteArray × XVn)) (b3 : List (ByteArray × XSn)) (b4 : List (XTgt × XDone)) (z : List XZone) (v : List XVol) (s : List XSnap) (q : List XDone), i + g = 60 → IV i b1 b2 b3 b4 z v s q → J z v s q →
  ∃ b1' b2' b3' b4' z' v' s' q', (w10_playLF l (g + 1) i b1 b2 b3 b4 z v s q).1 = false ∧ (w10_playLF l (g + 1) i b1 b2 b3 b4 z v s q).2.2.2.2.2.2.2.2.2 = (b1', b2', b3', b4', z', v', s', q') ∧ IV 60 b1' b2' b3' b4' z' v' s' q' ∧ J z' v' s' q'
 | 0, i, b1, b2, b3, b4, z, v, s, q, hi, h, hj => by
  unfold w10_playLF
  have : cond (decide ((i : Int) < (l.length : Int))) (decide ((i : Int) < (60 : Int))) false = false := by
   rw [decide_eq_false (by omega : ¬ (i : Int) < 60)]
   cases decide ((i : Int) < (l.length : Int)) <;> rfl
  rw [this]
  exact ⟨_, _, _, _, _, _, _, _, rfl, rfl, h.mono (by omega), hj⟩
 | g + 1, i, b1, b2, b3, b4, z, v, s, q, hi, h, hj => by
  unfold w10_playLF
  cases hc : cond (decide ((i : Int) < (l.length : Int))) (decide ((i : Int) < (60 : Int))) false with
  | false => exact ⟨_, _, _, _, _, _, _, _, rfl, rfl, h.mono (by omega), hj⟩
  | true =>
   obtain ⟨h1, h2⟩ := do_ok h (l.getD i default)
   simp only [cond_true, h1, Bool.not_true, cond_false]
   exact playL_ok hJ l g (i + 1) _ _ _ _ _ _ _ _ (by omega) h2 (hJ.deed h hj _)
theorem play_ok {J : JP} (hJ : Stays J) {n0 n1 n2 : Int} (h0 : U8 n0) (h1 : U8 n1) (h2 : U8 n2) (hj : J (w10_zonesF n0 n1 n2) [] [] []) (l : List XDeed) :
  ∃ b1 b2 b3 b4 z v s q, w10_playF n0 n1 n2 l = (true, b1, b2, b3, b4, z, v, s, q) ∧ IV 60 b1 b2 b3 b4 z v s q ∧ J z v s q := by
 have hz := zones_zv h0 h1 h2
 have hj' : J (r10_NewF (w10_zonesF n0 n1 n2)).2.1 (r10_NewF (w10_zonesF n0 n1 n2)).2.2.1 (r10_NewF (w10_zonesF n0 n1 n2)).2.2.2.1 (r10_NewF (w10_zonesF n0 n1 n2)).2.2.2.2 := by
  have hf := (rnew_flag _).2 hz
  unfold r10_NewF at hf ⊢
  cases hc2 : cond (decide (((w10_zonesF n0 n1 n2).length : Int) < (1 : Int))) true (decide (((w10_zonesF n0 n1 n2).length : Int) > (16 : Int))) with
  | true => rw [hc2] at hf; cases hf
  | false =>
   rw [hc2] at hf
   simp only [cond_false] at hf ⊢
   cases hn2 : r10_NewLF (w10_zonesF n0 n1 n2) (w10_zonesF n0 n1 n2) 0 with
   | true => rw [hn2] at hf; cases hf
   | false => exact hj
 obtain ⟨b1, b2, b3, b4, z, v, s, q, e1, e2, e3, e4⟩ := playL_ok hJ l 60 0 _ _ _ _ _ _ _ _ (by omega) (new_iv hz) hj'
 refine ⟨b1, b2, b3, b4, z, v, s, q, ?_, e3, e4⟩
 unfold w10_playF
 rw [e1, e2]
 rfl
theorem play_iv {n0 n1 n2 : Int} (h0 : U8 n0) (h1 : U8 n1) (h2 : U8 n2) (l : List XDeed) : IV 60 (w10_playF n0 n1 n2 l).2.1 (w10_playF n0 n1 n2 l).2.2.1 (w10_playF n0 n1 n2 l).2.2.2.1 (w10_playF n0 n1 n2 l).2.2.2.2.1 (w10_playF n0 n1 n2 l).2.2.2.2.2.1 (w10_playF n0 n1 n2 l).2.2.2.2.2.2.1 (w10_playF n0 n1 n2 l).2.2.2.2.2.2.2.1 (w10_playF n0 n1 n2 l).2.2.2.2.2.2.2.2 := by
 obtain ⟨b1, b2, b3, b4, z, v, s, q, e, h, _⟩ := play_ok stays_true h0 h1 h2 trivial l
 rw [e]
 exact h
theorem play_vb {n0 n1 n2 : Int} (h0 : U8 n0) (h1 : U8 n1) (h2 : U8 n2) (l : List XDeed) : VB (w10_playF n0 n1 n2 l).2.2.1 := iv_vb ((play_iv h0 h1 h2 l).mono (by omega))
theorem play_do {n0 n1 n2 : Int} (h0 : U8 n0) (h1 : U8 n1) (h2 : U8 n2) (l : List XDeed) (c : XCall) : VB (dD_DoF c (w10_playF n0 n1 n2 l).2.1 (w10_playF n0 n1 n2 l).2.2.1 (w10_playF n0 n1 n2 l).2.2.2.1 (w10_playF n0 n1 n2 l).2.2.2.2.1).2.2.1 := iv_vb ((iv_do (play_iv h0 h1 h2 l) c).2.mono (by omega))
theorem play_len {n0 n1 n2 : Int} (h0 : U8 n0) (h1 : U8 n1) (h2 : U8 n2) (l : List XDeed) : (dD_VolumesF (w10_playF n0 n1 n2 l).2.1 (w10_playF n0 n1 n2 l).2.2.1 (w10_playF n0 n1 n2 l).2.2.2.1 (w10_playF n0 n1 n2 l).2.2.2.2.1).length ≤ 1000 := by
 rw [Volumes_R (play_iv h0 h1 h2 l).1]
 exact iv_v (play_iv h0 h1 h2 l)
theorem play_nodes {n0 n1 n2 : Int} (h0 : U8 n0) (h1 : U8 n1) (h2 : U8 n2) (l : List XDeed) : ∀ x ∈ dD_VolumesF (w10_playF n0 n1 n2 l).2.1 (w10_playF n0 n1 n2 l).2.2.1 (w10_playF n0 n1 n2 l).2.2.2.1 (w10_playF n0 n1 n2 l).2.2.2.2.1, x.nodes.length ≤ 1000 := by
 rw [Volumes_R (play_iv h0 h1 h2 l).1]
 exact iv_nb ((play_iv h0 h1 h2 l).mono (by omega))
theorem play_dolen {n0 n1 n2 : Int} (h0 : U8 n0) (h1 : U8 n1) (h2 : U8 n2) (l : List XDeed) (c : XCall) : (dD_VolumesF (dD_DoF c (w10_playF n0 n1 n2 l).2.1 (w10_playF n0 n1 n2 l).2.2.1 (w10_playF n0 n1 n2 l).2.2.2.1 (w10_playF n0 n1 n2 l).2.2.2.2.1).2.1 (dD_DoF c (w10_playF n0 n1 n2 l).2.1 (w10_playF n0 n1 n2 l).2.2.1 (w10_playF n0 n1 n2 l).2.2.2.1 (w10_playF n0 n1 n2 l).2.2.2.2.1).2.2.1 (dD_DoF c (w10_playF n0 n1 n2 l).2.1 (w10_playF n0 n1 n2 l).2.2.1 (w10_playF n0 n1 n2 l).2.2.2.1 (w10_playF n0 n1 n2 l).2.2.2.2.1).2.2.2.1 (dD_DoF c (w10_playF n0 n1 n2 l).2.1 (w10_playF n0 n1 n2 l).2.2.1 (w10_playF n0 n1 n2 l).2.2.2.1 (w10_playF n0 n1 n2 l).2.2.2.2.1).2.2.2.2).length ≤ 1000 := by
 have h := (iv_do (play_iv h0 h1 h2 l) c).2
 rw [Volumes_R h.1]
 exact iv_v h
theorem Snaps_len (b3 : List (ByteArray × XSn)) (b1 : List (ByteArray × Int)) (b2 : List (ByteArray × XVn)) (b4 : List (XTgt × XDone)) : (dD_SnapsF b1 b2 b3 b4).length = b3.length := by
 unfold dD_SnapsF
 rw [Snaps_it, List.nil_append, List.length_map, sortB_length, List.length_map]
theorem snaps_len {b3 : List (ByteArray × XSn)} (h : NK b3) (b1 : List (ByteArray × Int)) (b2 : List (ByteArray × XVn)) (b4 : List (XTgt × XDone)) : (dD_SnapsF b1 b2 b3 b4).length < 4611686018427387904 := by
 rw [Snaps_len]
 have := h.1
 rw [List.length_map] at this
 omega
theorem findLF_mem (n : ByteArray) : ∀ l : List XVol, (w10_findLF n l).1 = true → (w10_findLF n l).2 ∈ l ∧ (w10_findLF n l).2.name = n
 | [], h => by simp [w10_findLF] at h
 | o :: r, h => by
  unfold w10_findLF at h ⊢
  by_cases e : o.name = n
  · rw [decide_eq_true e]
    exact ⟨List.mem_cons_self, e⟩
  · rw [decide_eq_false e, cond_false] at h ⊢
    obtain ⟨h1, h2⟩ := findLF_mem n r h
    exact ⟨List.mem_cons_of_mem _ h1, h2⟩
theorem findLF_none (n : ByteArray) : ∀ l : List XVol, (w10_findLF n l).1 = false → ∀ x ∈ l, x.name ≠ n
 | [], _ => nofun
 | o :: r, h => by
  unfold w10_findLF at h
  by_cases e : o.name = n
  · rw [decide_eq_true e] at h; cases h
  · rw [decide_eq_false e, cond_false] at h
    intro x hx
    rcases List.mem_cons.1 hx with rfl | hx
    · exact e
    · exact findLF_none n r h x hx
theorem find_at (l : List XVol) (n : ByteArray) : (w10_findF l n = (default, false) ∧ ∀ x ∈ l, x.name ≠ n) ∨ ∃ x ∈ l, x.name = n ∧ w10_findF l n = (x, true) := by
 unfold w10_findF
 cases h : (w10_findLF n l).1 with
 | true =>
  obtain ⟨h1, h2⟩ := findLF_mem n l h
  exact .inr ⟨_, h1, h2, rfl⟩
 | false => exact .inl ⟨rfl, findLF_none n l h⟩
theorem find_nodes {n0 n1 n2 : Int} (h0 : U8 n0) (h1 : U8 n1) (h2 : U8 n2) (l : List XDeed) (n : ByteArray) : (w10_findF (dD_VolumesF (w10_playF n0 n1 n2 l).2.1 (w10_playF n0 n1 n2 l).2.2.1 (w10_playF n0 n1 n2 l).2.2.2.1 (w10_playF n0 n1 n2 l).2.2.2.2.1) n).1.nodes.length ≤ 1000 := by
 rcases find_at (dD_VolumesF (w10_playF n0 n1 n2 l).2.1 (w10_playF n0 n1 n2 l).2.2.1 (w10_playF n0 n1 n2 l).2.2.2.1 (w10_playF n0 n1 n2 l).2.2.2.2.1) n with ⟨e, _⟩ | ⟨x, hx, _, e⟩
 · rw [e]; exact Nat.zero_le _
 · rw [e]; exact play_nodes h0 h1 h2 l x hx
theorem zones_len (n0 n1 n2 : Int) : (w10_zonesF n0 n1 n2).length = 3 := rfl
theorem live_true : w10_liveF = true := by
 have h := ((iv_do (iv_do (new_iv live_zv) liveC).2 liveC).2).1
 unfold w10_liveF
 simp only [kPl0, kPl2, kPl3, kPl4]
 rw [Volumes_R h]
 show _ = true
 kernel_rfl
end Go.Proofs.Ytpffbkbadnhmmaa
