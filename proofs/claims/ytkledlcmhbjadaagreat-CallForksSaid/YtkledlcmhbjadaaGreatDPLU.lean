/- The calls, plainly: a deed on both clients. -/
import Derived.Test.YtkledlcmhbjadaaGreatDCallTwo
set_option linter.unusedVariables false
set_option linter.unusedSimpArgs false
set_option maxRecDepth 100000
namespace Go.Proofs.YtkledlcmhbjadaaGreat
open Go Go.Eng
section
variable {n : Nat} {p r : LK} {b1 : LA} {b2 : LB} {b3 : LC} {b4 : LD} {z : LZ} {v : LV} {s : LS} {q : LQ}
theorem cagain_ok (h : IC n p r b1 b2 b3 b4 z v s q) (i : Int) : (Z4 i p b1 b2 b3 b4).1 = (Zd i r z v s q).1 ∧
  IC (n + 1) p r (Z4 i p b1 b2 b3 b4).2.1 (Z4 i p b1 b2 b3 b4).2.2.1 (Z4 i p b1 b2 b3 b4).2.2.2.1 (Z4 i p b1 b2 b3 b4).2.2.2.2 (Zd i r z v s q).2.1 (Zd i r z v s q).2.2.1 (Zd i r z v s q).2.2.2.1 (Zd i r z v s q).2.2.2.2 := by
 obtain ⟨h1, rfl, h3, h4⟩ := h
 unfold Z4 Zd
 cases cond (decide (i < (0 : Int))) true (decide (i ≥ (r.length : Int))) with
 | true => exact ⟨rfl, h1.mono (Nat.le_succ _), rfl, Nat.le_succ_of_le h3, h4⟩
 | false => exact ⟨rfl, (iv_do h1 (r.getD i.toNat default)).2, rfl, Nat.le_succ_of_le h3, h4⟩
theorem Z1f4 (h : IC n p r b1 b2 b3 b4 z v s q) {x : XCall} (hx : CS x) {o : Int} (ho : 0 ≤ o) : (Z7 x o p b1 b2 b3 b4).1 = (Zf x o r z v s q).1 ∧
  IC (n + 1) (Z7 x o p b1 b2 b3 b4).2.2.2.2.2 (Zf x o r z v s q).2.1 (Z7 x o p b1 b2 b3 b4).2.1 (Z7 x o p b1 b2 b3 b4).2.2.1 (Z7 x o p b1 b2 b3 b4).2.2.2.1 (Z7 x o p b1 b2 b3 b4).2.2.2.2.1
   (Zf x o r z v s q).2.2.1 (Zf x o r z v s q).2.2.2.1 (Zf x o r z v s q).2.2.2.2.1 (Zf x o r z v s q).2.2.2.2.2 := by
 obtain ⟨h1, rfl, h3, h4⟩ := h
 obtain ⟨e, h2⟩ := iv_do h1 x
 unfold Z7 Zf
 rw [← Right_eq]
 cases hc : cond (!(Z15 x)) true (decide (o > (3 : Int))) with
 | true => exact ⟨rfl, h1.mono (Nat.le_succ _), rfl, Nat.le_succ_of_le h3, h4⟩
 | false =>
  have ho3 : o ≤ 3 := by
   simp only [Bool.cond_true_left, Bool.or_eq_false_iff, decide_eq_false_iff_not] at hc
   omega
  cases hl : decide ((r.length : Int) ≥ (4096 : Int)) with
  | true => exact ⟨rfl, h1.mono (Nat.le_succ _), rfl, Nat.le_succ_of_le h3, h4⟩
  | false =>
   have hlen : (r ++ [x]).length ≤ n + 1 := by
    simp only [List.length_append, List.length_cons, List.length_nil]
    omega
   have hall : ∀ y ∈ r ++ [x], CS y := fun y hy => by
    rcases List.mem_append.1 hy with hy | hy
    · exact h4 y hy
    · rw [List.mem_singleton.1 hy]; exact hx
   have : o = 0 ∨ o = 1 ∨ o = 2 ∨ o = 3 := by omega
   rcases this with rfl | rfl | rfl | rfl
   · exact ⟨e, h2, rfl, hlen, hall⟩
   · exact ⟨rfl, h1.mono (Nat.le_succ _), rfl, hlen, hall⟩
   · exact ⟨rfl, h2, rfl, hlen, hall⟩
   · exact ⟨rfl, h1.mono (Nat.le_succ _), rfl, hlen, hall⟩
theorem cdo_ok (h : IC n p r b1 b2 b3 b4 z v s q) (x : XDeed2) (hx : D2 x) : (Z10 x p r b1 b2 b3 b4 z v s q).1 = true ∧
  IC (n + 1) (Z10 x p r b1 b2 b3 b4 z v s q).2.2.2.2.2.1 (Z10 x p r b1 b2 b3 b4 z v s q).2.2.2.2.2.2.1 (Z10 x p r b1 b2 b3 b4 z v s q).2.1 (Z10 x p r b1 b2 b3 b4 z v s q).2.2.1 (Z10 x p r b1 b2 b3 b4 z v s q).2.2.2.1 (Z10 x p r b1 b2 b3 b4 z v s q).2.2.2.2.1
   (Z10 x p r b1 b2 b3 b4 z v s q).2.2.2.2.2.2.2.1 (Z10 x p r b1 b2 b3 b4 z v s q).2.2.2.2.2.2.2.2.1 (Z10 x p r b1 b2 b3 b4 z v s q).2.2.2.2.2.2.2.2.2.1 (Z10 x p r b1 b2 b3 b4 z v s q).2.2.2.2.2.2.2.2.2.2 := by
 unfold Z10
 cases x.again with
 | true =>
  obtain ⟨h1, h2⟩ := cagain_ok h x.i
  simp only [cond_true]
  rw [h1]
  exact ⟨beq_self_eq_true _, h2⟩
 | false =>
  simp only [cond_false]
  cases hc : (!(x.tag == (0 : Int))) with
  | true =>
   obtain ⟨h1, h2⟩ := iv_put h.1 x.c.target x.c.node x.tag
   simp only [cond_true, Z41, Z3b]
   rw [h1]
   exact ⟨beq_self_eq_true _, h2.mono (Nat.le_succ _), h.2.1, Nat.le_succ_of_le h.2.2.1, h.2.2.2⟩
  | false =>
   obtain ⟨h1, h2⟩ := Z1f4 h hx.1 hx.2
   simp only [cond_false]
   have e : (⟨x.c.verb, x.c.target, x.c.num, x.c.size, x.c.zone, x.c.node, x.c.source⟩ : XCall) = x.c := rfl
   rw [e, h1]
   exact ⟨res_eq _, h2⟩
theorem Z281 (a : LK) : ∀ (l : LK) (i : Nat), (∀ k x, l[k]? = some x → a.getD (i + k) default = x) → Z266 a l i = false
 | [], _, _ => rfl
 | o :: r, i, h => by
  unfold Z266
  have h0 := h 0 o rfl
  rw [Nat.add_zero] at h0
  rw [h0]
  simp only [decide_true, beq_self_eq_true, Bool.and_self, Bool.not_true, cond_false]
  exact Z281 a r (i + 1) fun k x hx => by rw [Nat.add_assoc, Nat.add_comm 1]; exact h (k + 1) x (by simpa using hx)
theorem sameCalls_self (a : LK) : Z261 a a = true := by
 unfold Z261
 rw [Z281 a a 0 (by intro k x hx; rw [Nat.zero_add, List.getD_eq_getElem?_getD, hx]; rfl)]
 simp
theorem csame_ok (h : IC n p r b1 b2 b3 b4 z v s q) : Z272 p r b1 b2 b3 b4 z v s q = true := by
 obtain ⟨h1, rfl, _, _⟩ := h
 unfold Z272
 have e1 : Z1a r b1 b2 b3 b4 = r := rfl
 have e2 : Z25b r z v s q = r := rfl
 rw [e1, e2, sameCalls_self]
 simp only [Z22, Z63, Z11, Z260, Z263, Z25c]
 rw [Z12d h1.1, Snaps_R h1.1, rVolumes2_id, rSnaps2_id, sameVols_self, sameSnaps_self, Room_R h1.1]
 simp
end
theorem zv11 : ZV Z0 := by
 have na : Z1f (⟨#[97]⟩ : BA) = true := by kernel_rfl
 have nb : Z1f (⟨#[98]⟩ : BA) = true := by kernel_rfl
 unfold Z0
 refine ⟨by simp, by simp, fun x hx => ?_, by simp⟩
 simp only [List.mem_cons, List.not_mem_nil, or_false] at hx
 rcases hx with rfl | rfl
 · exact ⟨na, by decide, by decide⟩
 · exact ⟨nb, by decide, by decide⟩
theorem cnew_ic : IC 0 (Z6 Z0).1 (Zb Z0).1 (Z6 Z0).2.1 (Z6 Z0).2.2.1 (Z6 Z0).2.2.2.1 (Z6 Z0).2.2.2.2 (Zb Z0).2.1 (Zb Z0).2.2.1 (Zb Z0).2.2.2.1 (Zb Z0).2.2.2.2 :=
 ⟨new_iv zv11, rfl, Nat.zero_le _, nofun⟩
theorem Z127 {l : List XDeed2} {i : Nat} (h : cond (decide ((i : Int) < (l.length : Int))) (decide ((i : Int) < (50 : Int))) false = true) : i < l.length ∧ i < 50 := by
 simp only [Bool.cond_false_right, Bool.and_eq_true, decide_eq_true_eq] at h
 omega
abbrev lvC : XCall := ⟨1, ⟨#[118]⟩, 1, 4, ⟨#[97]⟩, ⟨#[]⟩, ⟨#[]⟩⟩
theorem lv_cs : CS lvC := ⟨by decide, by decide, by decide, by decide⟩
abbrev lv1 := Z7 lvC 2 (Z6 Z0).1 (Z6 Z0).2.1 (Z6 Z0).2.2.1 (Z6 Z0).2.2.2.1 (Z6 Z0).2.2.2.2
abbrev lv2 := Z7 lvC 0 lv1.2.2.2.2.2 lv1.2.1 lv1.2.2.1 lv1.2.2.2.1 lv1.2.2.2.2.1
theorem lv_ic : ∃ r z v s q, IC 2 lv2.2.2.2.2.2 r lv2.2.1 lv2.2.2.1 lv2.2.2.2.1 lv2.2.2.2.2.1 z v s q := by
 have h := (Z1f4 (Z1f4 cnew_ic lv_cs (o := 2) (by decide)).2 lv_cs (o := 0) (by decide)).2
 exact ⟨_, _, _, _, _, h⟩
theorem lv_vb : VB lv2.2.2.1 := by obtain ⟨_, _, _, _, _, h⟩ := lv_ic; exact iv_vb (h.1.mono (by omega))
theorem lv_p : lv2.2.2.2.2.2.length ≤ 1000000 := by obtain ⟨_, _, _, _, _, h⟩ := lv_ic; exact ic_p (h.mono (by omega))
end Go.Proofs.YtkledlcmhbjadaaGreat
