/- The document's driver: by hand: places. -/
import Derived.Test.YtpffbkbadnhmmaaDRFind
set_option linter.unusedVariables false
set_option linter.unusedSimpArgs false
set_option maxRecDepth 100000
namespace Go.Proofs.Ytpffbkbadnhmmaa
open Go Go.Eng
theorem gD_memI {α : Type} [Inhabited α] {l : List α} {i : Int} (h0 : 0 ≤ i) (h : i < (l.length : Int)) : l.getD i.toNat default ∈ l := gD_mem (by omega)
theorem volL_rng (a1 : ByteArray) : ∀ (l : List XVol) (i : Nat), (rD_volLF a1 l i).1 = true → (i : Int) ≤ (rD_volLF a1 l i).2 ∧ (rD_volLF a1 l i).2 < (i : Int) + (l.length : Int)
 | [], i, h => by simp [rD_volLF] at h
 | o :: r, i, h => by
  unfold rD_volLF at h ⊢
  rw [List.length_cons]
  generalize decide (o.name = a1) = c at h ⊢
  cases c with
  | true => simp only [cond_true] at h ⊢; omega
  | false =>
   simp only [cond_false] at h ⊢
   have := volL_rng a1 r (i + 1) h
   omega
theorem vol_rng (a1 : ByteArray) (b1 : List XZone) (b2 : List XVol) (b3 : List XSnap) (b4 : List XDone) : -1 ≤ rD_volF a1 b1 b2 b3 b4 ∧ rD_volF a1 b1 b2 b3 b4 < (b2.length : Int) := by
 unfold rD_volF
 cases h : (rD_volLF a1 b2 0).1 with
 | true =>
  have := volL_rng a1 b2 0 h
  simp only [cond_true]; omega
 | false => simp only [cond_false]; omega
theorem snapL_rng (a1 : ByteArray) : ∀ (l : List XSnap) (i : Nat), (rD_snapLF a1 l i).1 = true → (i : Int) ≤ (rD_snapLF a1 l i).2 ∧ (rD_snapLF a1 l i).2 < (i : Int) + (l.length : Int)
 | [], i, h => by simp [rD_snapLF] at h
 | o :: r, i, h => by
  unfold rD_snapLF at h ⊢
  rw [List.length_cons]
  generalize decide (o.name = a1) = c at h ⊢
  cases c with
  | true => simp only [cond_true] at h ⊢; omega
  | false =>
   simp only [cond_false] at h ⊢
   have := snapL_rng a1 r (i + 1) h
   omega
theorem snap_rng (a1 : ByteArray) (b1 : List XZone) (b2 : List XVol) (b3 : List XSnap) (b4 : List XDone) : -1 ≤ rD_snapF a1 b1 b2 b3 b4 ∧ rD_snapF a1 b1 b2 b3 b4 < (b3.length : Int) := by
 unfold rD_snapF
 cases h : (rD_snapLF a1 b3 0).1 with
 | true =>
  have := snapL_rng a1 b3 0 h
  simp only [cond_true]; omega
 | false => simp only [cond_false]; omega
theorem zoneL_rng (a1 : ByteArray) : ∀ (l : List XZone) (i : Nat), (rD_zoneLF a1 l i).1 = true → (i : Int) ≤ (rD_zoneLF a1 l i).2 ∧ (rD_zoneLF a1 l i).2 < (i : Int) + (l.length : Int)
 | [], i, h => by simp [rD_zoneLF] at h
 | o :: r, i, h => by
  unfold rD_zoneLF at h ⊢
  rw [List.length_cons]
  generalize decide (o.name = a1) = c at h ⊢
  cases c with
  | true => simp only [cond_true] at h ⊢; omega
  | false =>
   simp only [cond_false] at h ⊢
   have := zoneL_rng a1 r (i + 1) h
   omega
theorem zone_rng (a1 : ByteArray) (b1 : List XZone) (b2 : List XVol) (b3 : List XSnap) (b4 : List XDone) : -1 ≤ rD_zoneF a1 b1 b2 b3 b4 ∧ rD_zoneF a1 b1 b2 b3 b4 < (b1.length : Int) := by
 unfold rD_zoneF
 cases h : (rD_zoneLF a1 b1 0).1 with
 | true =>
  have := zoneL_rng a1 b1 0 h
  simp only [cond_true]; omega
 | false => simp only [cond_false]; omega
theorem lastL_rng (a1 : Int) (a2 : ByteArray) : ∀ (l : List XDone) (i : Nat), (rD_lastLF a1 a2 l i).1 = true → (i : Int) ≤ (rD_lastLF a1 a2 l i).2 ∧ (rD_lastLF a1 a2 l i).2 < (i : Int) + (l.length : Int)
 | [], i, h => by simp [rD_lastLF] at h
 | o :: r, i, h => by
  unfold rD_lastLF at h ⊢
  rw [List.length_cons]
  generalize cond (decide (o.c.target = a2)) (r10_ofSnapF o.c.verb == r10_ofSnapF a1) false = c at h ⊢
  cases c with
  | true => simp only [cond_true] at h ⊢; omega
  | false =>
   simp only [cond_false] at h ⊢
   have := lastL_rng a1 a2 r (i + 1) h
   omega
theorem last_rng (a1 : Int) (a2 : ByteArray) (b1 : List XZone) (b2 : List XVol) (b3 : List XSnap) (b4 : List XDone) : -1 ≤ rD_lastF a1 a2 b1 b2 b3 b4 ∧ rD_lastF a1 a2 b1 b2 b3 b4 < (b4.length : Int) := by
 unfold rD_lastF
 cases h : (rD_lastLF a1 a2 b4 0).1 with
 | true =>
  have := lastL_rng a1 a2 b4 0 h
  simp only [cond_true]; omega
 | false => simp only [cond_false]; omega
def ZHas (b1 : List XZone) (z : ByteArray) : Prop := ∃ q ∈ b1, q.name = z
theorem zoneL_has (z : ByteArray) : ∀ (l : List XZone) (i : Nat), ZHas l z → (rD_zoneLF z l i).1 = true
 | [], _, h => by obtain ⟨q, hq, _⟩ := h; cases hq
 | o :: r, i, h => by
  unfold rD_zoneLF
  by_cases e : o.name = z
  · rw [decide_eq_true e, cond_true]
  · rw [decide_eq_false e, cond_false]
    obtain ⟨q, hq, hz⟩ := h
    rcases List.mem_cons.1 hq with rfl | hq
    · exact absurd hz e
    · exact zoneL_has z r (i + 1) ⟨q, hq, hz⟩
theorem zone_has {z : ByteArray} {b1 : List XZone} (h : ZHas b1 z) (b2 : List XVol) (b3 : List XSnap) (b4 : List XDone) : 0 ≤ rD_zoneF z b1 b2 b3 b4 := by
 unfold rD_zoneF
 have h1 := zoneL_has z b1 0 h
 rw [h1, cond_true]
 exact (zoneL_rng z b1 0 h1).1
theorem wrap1 {x : Int} (h0 : -1 ≤ x) (h1 : x < 1000000) : IntKind.i64.wrap (x + 1) = x + 1 := by rw [IntKind.wrap_i64]; omega
theorem rngs (a1 : XCall) (b1 : List XZone) (b2 : List XVol) (b3 : List XSnap) (b4 : List XDone) : (-1 ≤ rD_volF a1.target b1 b2 b3 b4 ∧ rD_volF a1.target b1 b2 b3 b4 < (b2.length : Int)) ∧ (-1 ≤ rD_volF a1.source b1 b2 b3 b4 ∧ rD_volF a1.source b1 b2 b3 b4 < (b2.length : Int)) ∧ (-1 ≤ rD_snapF a1.target b1 b2 b3 b4 ∧ rD_snapF a1.target b1 b2 b3 b4 < (b3.length : Int)) ∧ (-1 ≤ rD_snapF a1.source b1 b2 b3 b4 ∧ rD_snapF a1.source b1 b2 b3 b4 < (b3.length : Int)) ∧ (-1 ≤ rD_zoneF a1.zone b1 b2 b3 b4 ∧ rD_zoneF a1.zone b1 b2 b3 b4 < (b1.length : Int)) ∧ (-1 ≤ rD_lastF a1.verb a1.target b1 b2 b3 b4 ∧ rD_lastF a1.verb a1.target b1 b2 b3 b4 < (b4.length : Int)) :=
 ⟨vol_rng a1.target b1 b2 b3 b4, vol_rng a1.source b1 b2 b3 b4, snap_rng a1.target b1 b2 b3 b4, snap_rng a1.source b1 b2 b3 b4, zone_rng a1.zone b1 b2 b3 b4, last_rng a1.verb a1.target b1 b2 b3 b4⟩
end Go.Proofs.Ytpffbkbadnhmmaa
