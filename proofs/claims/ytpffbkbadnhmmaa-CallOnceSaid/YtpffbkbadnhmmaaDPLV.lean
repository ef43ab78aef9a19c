/- The calls, plainly: deeds on both clients; what a client holds. -/
import Derived.Test.YtpffbkbadnhmmaaDCallPlay
set_option linter.unusedVariables false
set_option linter.unusedSimpArgs false
set_option maxRecDepth 100000
namespace Go.Proofs.Ytpffbkbadnhmmaa
open Go Go.Eng
theorem cplayL_ok (l : List XDeed2) (hl : ∀ x ∈ l, D2 x) : ∀ (g i : Nat) (p r : LK) (b1 : LA) (b2 : LB) (b3 : LC) (b4 : LD) (z : LZ) (v : LV) (s : LS) (q : LQ), i + g = 50 → IC i p r b1 b2 b3 b4 z v s q →
  ∃ p' r' b1' b2' b3' b4' z' v' s' q', (Z1b l (g + 1) i p r b1 b2 b3 b4 z v s q).1 = false ∧ (Z1b l (g + 1) i p r b1 b2 b3 b4 z v s q).2.2.2.2.2.2.2.2.2.2.2 = (p', r', b1', b2', b3', b4', z', v', s', q') ∧ IC 50 p' r' b1' b2' b3' b4' z' v' s' q'
 | 0, i, p, r, b1, b2, b3, b4, z, v, s, q, hi, h => by
  unfold Z1b
  have : cond (decide ((i : Int) < (l.length : Int))) (decide ((i : Int) < (50 : Int))) false = false := by
   rw [decide_eq_false (by omega : ¬ (i : Int) < 50)]
   cases decide ((i : Int) < (l.length : Int)) <;> rfl
  rw [this]
  exact ⟨_, _, _, _, _, _, _, _, _, _, rfl, rfl, h.mono (by omega)⟩
 | g + 1, i, p, r, b1, b2, b3, b4, z, v, s, q, hi, h => by
  unfold Z1b
  cases hc : cond (decide ((i : Int) < (l.length : Int))) (decide ((i : Int) < (50 : Int))) false with
  | false => exact ⟨_, _, _, _, _, _, _, _, _, _, rfl, rfl, h.mono (by omega)⟩
  | true =>
   obtain ⟨h1, h2⟩ := cdo_ok h (l.getD i default) (hl _ (Z235 (Z221 hc).1))
   simp only [cond_true, h1, Bool.not_true, cond_false]
   exact cplayL_ok l hl g (i + 1) _ _ _ _ _ _ _ _ _ _ (by omega) h2
theorem cplay_ok (l : List XDeed2) (hl : ∀ x ∈ l, D2 x) : ∃ p r b1 b2 b3 b4 z v s q, Z4 l = (true, p, r, b1, b2, b3, b4, z, v, s, q) ∧ IC 50 p r b1 b2 b3 b4 z v s q := by
 obtain ⟨p, r, b1, b2, b3, b4, z, v, s, q, e1, e2, e3⟩ := cplayL_ok l hl 50 0 _ _ _ _ _ _ _ _ _ _ (by omega) cnew_ic
 refine ⟨p, r, b1, b2, b3, b4, z, v, s, q, ?_, e3⟩
 unfold Z4
 rw [e1, e2]
 rfl
def PC (k : Nat) (p : LK) (b1 : LA) (b2 : LB) (b3 : LC) (b4 : LD) : Prop := ∃ r z v s q, IC k p r b1 b2 b3 b4 z v s q
section
variable {k : Nat} {p : LK} {b1 : LA} {b2 : LB} {b3 : LC} {b4 : LD}
theorem Z79 (h : PC k p b1 b2 b3 b4) {x : XCall} (hx : CS x) {o : Int} (ho : 0 ≤ o) : PC (k + 1) (Z0 x o p b1 b2 b3 b4).2.2.2.2.2 (Z0 x o p b1 b2 b3 b4).2.1 (Z0 x o p b1 b2 b3 b4).2.2.1 (Z0 x o p b1 b2 b3 b4).2.2.2.1 (Z0 x o p b1 b2 b3 b4).2.2.2.2.1 := by
 obtain ⟨r, z, v, s, q, h⟩ := h
 exact ⟨_, _, _, _, _, (Z18d h hx ho).2⟩
theorem Z72 (h : PC k p b1 b2 b3 b4) (i : Int) : PC (k + 1) p (Za i p b1 b2 b3 b4).2.1 (Za i p b1 b2 b3 b4).2.2.1 (Za i p b1 b2 b3 b4).2.2.2.1 (Za i p b1 b2 b3 b4).2.2.2.2 := by
 obtain ⟨r, z, v, s, q, h⟩ := h
 exact ⟨_, _, _, _, _, (cagain_ok h i).2⟩
theorem PC.mono {m : Nat} (h : PC k p b1 b2 b3 b4) (hm : k ≤ m) : PC m p b1 b2 b3 b4 := by obtain ⟨r, z, v, s, q, h⟩ := h; exact ⟨r, z, v, s, q, h.mono hm⟩
theorem PC.vb (h : PC k p b1 b2 b3 b4) (hk : k ≤ 1000) : VB b2 := by obtain ⟨_, _, _, _, _, h⟩ := h; exact iv_vb (h.1.mono hk)
theorem PC.nk (h : PC k p b1 b2 b3 b4) (_ : k ≤ 1000) : NK b3 := by obtain ⟨_, _, _, _, _, h⟩ := h; exact iv_nk h.1
theorem PC.vl (h : PC k p b1 b2 b3 b4) (_ : k ≤ 1000) : (Z4e b1 b2 b3 b4).length ≤ 1000 := by obtain ⟨_, _, _, _, _, h⟩ := h; rw [Z124 h.1.1]; exact iv_v h.1
theorem PC.vn (h : PC k p b1 b2 b3 b4) (hk : k ≤ 1000) : ∀ x ∈ Z4e b1 b2 b3 b4, x.nodes.length ≤ 1000 := by obtain ⟨_, _, _, _, _, h⟩ := h; rw [Z124 h.1.1]; exact iv_nb (h.1.mono hk)
theorem PC.sl (h : PC k p b1 b2 b3 b4) (_ : k ≤ 1000) : (Z89 b1 b2 b3 b4).length ≤ 1000 := by obtain ⟨_, _, _, _, _, h⟩ := h; rw [Snaps_R h.1.1]; exact iv_s h.1
theorem PC.len (h : PC k p b1 b2 b3 b4) (hk : k ≤ 1000) : p.length ≤ 1000000 := by obtain ⟨_, _, _, _, _, h⟩ := h; exact Nat.le_trans h.2.2.1 (by omega)
theorem PC.cs (h : PC k p b1 b2 b3 b4) (_ : k ≤ 1000) : ∀ x ∈ p, CS x := by obtain ⟨_, _, _, _, _, h⟩ := h; exact h.2.2.2
end
theorem Z80 {l : List XDeed2} (hl : ∀ x ∈ l, D2 x) : PC 50 (Z4 l).2.1 (Z4 l).2.2.2.1 (Z4 l).2.2.2.2.1 (Z4 l).2.2.2.2.2.1 (Z4 l).2.2.2.2.2.2.1 := by
 obtain ⟨p, r, b1, b2, b3, b4, z, v, s, q, e, h⟩ := cplay_ok l hl
 rw [e]
 exact ⟨_, _, _, _, _, h⟩
theorem Z1e1 {l : List Bool} {i : Nat} (h : cond (decide ((i : Int) < (l.length : Int))) (decide ((i : Int) < (10 : Int))) false = true) : i < l.length ∧ i < 10 := by
 simp only [Bool.cond_false_right, Bool.and_eq_true, decide_eq_true_eq] at h
 omega
theorem clive_true : Zd0 = true := by
 have h := (Z18d (Z18d cnew_ic lv_cs (o := 2) (by decide)).2 lv_cs (o := 0) (by decide)).2
 have e := Z124 h.1.1
 unfold Zd0
 simp only [kCp1, kCp0, kCp2, Z1e]
 rw [e]
 show _ = true
 kernel_rfl
end Go.Proofs.Ytpffbkbadnhmmaa
