/- The driver, plainly: the laws DriverPlays, DriverZones, DriverNone. -/
import Derived.Test.YtpffbkbadnhmmaaDLawPlays
import Derived.Test.YtpffbkbadnhmmaaDLawZonesA
import Derived.Test.YtpffbkbadnhmmaaDLawZonesB
import Derived.Test.YtpffbkbadnhmmaaDLawNone
set_option linter.unusedVariables false
set_option linter.unusedSimpArgs false
set_option maxRecDepth 100000
namespace Go.Proofs.Ytpffbkbadnhmmaa
open Go Go.Eng
theorem plays_true {n0 n1 n2 : Int} (h0 : U8 n0) (h1 : U8 n1) (h2 : U8 n2) (l : List XDeed) (c : XCall) : w10_DriverPlaysF n0 n1 n2 l c = true := by
 unfold w10_DriverPlaysF
 have h := play_iv h0 h1 h2 l
 obtain ⟨b1, b2, b3, b4, z, v, s, q, e, _, _⟩ := play_ok stays_true h0 h1 h2 trivial l
 rw [same_ok h, live_true, Right_eq, e]
 simp
theorem none_true (x : XDeed) : w10_DriverNoneF x = true := by
 unfold w10_DriverNoneF
 rw [live_true]
 rfl
theorem zonesLF_none (a : List XZone) (h : ZV a) : ∀ l : List XZone, (∀ x ∈ l, x ∈ a) → w10_DriverZonesLF a l = false
 | [], _ => rfl
 | o :: r, hm => by
  unfold w10_DriverZonesLF
  have hz := (new_iv h).1.z
  have hro : (r10_NewF a).2.1 = a := by
   have hf := (rnew_flag a).2 h
   unfold r10_NewF at hf ⊢
   cases hc2 : cond (decide ((a.length : Int) < (1 : Int))) true (decide ((a.length : Int) > (16 : Int))) with
   | true => rw [hc2] at hf; cases hf
   | false =>
    rw [hc2] at hf
    simp only [cond_false] at hf ⊢
    cases hn2 : r10_NewLF a a 0 with
    | true => rw [hn2] at hf; cases hf
    | false => rfl
  have hb := hz.bwd o (by rw [hro]; exact hm o List.mem_cons_self)
  have hR : dD_RoomF o.name (driver_NewF a).2.1 (driver_NewF a).2.2.1 (driver_NewF a).2.2.2.1 (driver_NewF a).2.2.2.2 = (o.room, true) := by
   unfold dD_RoomF
   simp only [mget_str]
   rw [hb]
   rfl
  rw [hR]
  simp only [Bool.not_true, beq_self_eq_true, cond_false]
  exact zonesLF_none a h r fun x hx => hm x (List.mem_cons_of_mem _ hx)
theorem zonesA_true (a : List XZone) (h : ZV a) : w10_DriverZonesF a = true := by
 unfold w10_DriverZonesF
 rw [zonesLF_none a h a fun _ hx => hx, live_true, Volumes_R (new_iv h).1, Snaps_R (new_iv h).1]
 have hf := (rnew_flag a).2 h
 have : (r10_NewF a).2.2.1 = [] ∧ (r10_NewF a).2.2.2.1 = [] := by
  unfold r10_NewF at hf ⊢
  cases hc2 : cond (decide ((a.length : Int) < (1 : Int))) true (decide ((a.length : Int) > (16 : Int))) with
  | true => rw [hc2] at hf; cases hf
  | false =>
   rw [hc2] at hf
   simp only [cond_false] at hf ⊢
   cases hn2 : r10_NewLF a a 0 with
   | true => rw [hn2] at hf; cases hf
   | false => exact ⟨rfl, rfl⟩
 rw [this.1, this.2]
 rfl
theorem zonesB_true (a : List XZone) : w10_DriverZones_2F a = true := by
 unfold w10_DriverZones_2F
 rw [live_true]
 rfl
end Go.Proofs.Ytpffbkbadnhmmaa
