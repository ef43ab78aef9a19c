/- The calls, plainly: the law CallLate: of each target the newest call is what counts. -/
import Derived.Test.YtkledlcmhbjadaaGreatDLawCallLate
import Derived.Test.YtkledlcmhbjadaaGreatDPLW0
set_option linter.unusedVariables false
set_option linter.unusedSimpArgs false
set_option maxRecDepth 100000
namespace Go.Proofs.YtkledlcmhbjadaaGreat
open Go Go.Eng
def Dn (p : LK) (b4 : LD) : Prop := ∀ x ∈ p, ∃ d, aget b4 (Z7f x) = some d ∧ x.num ≤ d.c.num
section
variable {c : XCall} {p : LK} {b1 : LA} {b2 : LB} {b3 : LC} {b4 : LD}
theorem aset_len {α β : Type} [DecidableEq α] (es : List (α × β)) (x : α) (y : β) : (aset es x y).length ≤ es.length + 1 := by
 induction es with
 | nil => simp [aset]
 | cons e r ih =>
  unfold aset
  split <;> simp only [List.length_cons] <;> omega
theorem dn_do (h : Dn p b4) (c : XCall) (b1 : LA) (b2 : LB) (b3 : LC) : Dn p (Z1e c b1 b2 b3 b4).2.2.2.2 := by
 have h0 := Z257 c b1 b2 b3 b4
 generalize Z1e c b1 b2 b3 b4 = x at h0
 cases h0 with
 | form _ => exact h
 | full _ _ _ => exact h
 | stale _ _ _ _ => exact h
 | again _ _ _ _ => exact h
 | other _ _ _ _ _ => exact h
 | new hR hp r hr =>
  intro x hx
  obtain ⟨d, h1, h2⟩ := h x hx
  show ∃ d, aget (aset b4 (Z7f c) ⟨c, r⟩) (Z7f x) = some d ∧ _
  rw [Z52]
  by_cases e : Z7f c = Z7f x
  · rw [if_pos e]
    refine ⟨_, rfl, ?_⟩
    have := hp d (by rw [e]; exact h1)
    show x.num ≤ c.num
    omega
  · rw [if_neg e]
    exact ⟨d, h1, h2⟩
theorem dn_new (hR : Z15 c = true) (hl : b4.length < 256) (b1 : LA) (b2 : LB) (b3 : LC) : ∃ d, aget (Z1e c b1 b2 b3 b4).2.2.2.2 (Z7f c) = some d ∧ c.num ≤ d.c.num := by
 have h0 := Z257 c b1 b2 b3 b4
 generalize Z1e c b1 b2 b3 b4 = x at h0
 cases h0 with
 | form h => rw [hR] at h; cases h
 | full _ _ h => omega
 | stale _ p hp hl => exact ⟨p, hp, by omega⟩
 | again _ p hp hl => exact ⟨p, hp, by rw [hl]; exact Int.le_refl _⟩
 | other _ p hp hl _ => exact ⟨p, hp, by omega⟩
 | new _ _ r _ =>
  refine ⟨⟨c, r⟩, ?_, Int.le_refl _⟩
  show aget (aset b4 (Z7f c) ⟨c, r⟩) (Z7f c) = _
  rw [Z52, if_pos rfl]
theorem do_len (c : XCall) (b1 : LA) (b2 : LB) (b3 : LC) (b4 : LD) : (Z1e c b1 b2 b3 b4).2.2.2.2.length ≤ b4.length + 1 := by
 have h0 := Z257 c b1 b2 b3 b4
 generalize Z1e c b1 b2 b3 b4 = x at h0
 cases h0 with
 | form _ => exact Nat.le_succ _
 | full _ _ _ => exact Nat.le_succ _
 | stale _ _ _ _ => exact Nat.le_succ _
 | again _ _ _ _ => exact Nat.le_succ _
 | other _ _ _ _ _ => exact Nat.le_succ _
 | new _ _ _ _ => exact aset_len _ _ _
theorem do_old (h : ∃ d, aget b4 (Z7f c) = some d ∧ c.num < d.c.num) : (Z1e c b1 b2 b3 b4).2 = (b1, b2, b3, b4) := by
 have h0 := Z257 c b1 b2 b3 b4
 generalize Z1e c b1 b2 b3 b4 = x at h0
 cases h0 with
 | form _ => rfl
 | full _ _ _ => rfl
 | stale _ _ _ _ => rfl
 | again _ _ _ _ => rfl
 | other _ _ _ _ _ => rfl
 | new _ hp _ _ =>
  obtain ⟨d, h1, h2⟩ := h
  have := hp d h1
  omega
def One (x : XDeed2) : Prop := (x.o = 0 ∨ x.o = 2) ∧ x.again = false
theorem doneOne_all {l : List XDeed2} (h : Z66 l = true) : ∀ x ∈ l, One x := by
 have key : ∀ l : List XDeed2, Z57 l = false → ∀ x ∈ l, One x := by
  intro l
  induction l with
  | nil => intro _ x hx; cases hx
  | cons o r ih =>
   intro h
   unfold Z57 at h
   cases hc : cond (cond (!((o.o) == (0 : Int))) (!((o.o) == (2 : Int))) false) true (o.again) with
   | true => rw [hc] at h; cases h
   | false =>
    rw [hc, cond_false] at h
    simp only [Bool.cond_true_left, Bool.or_eq_false_iff, Bool.cond_false_right, Bool.and_eq_false_iff, Bool.not_eq_false', beq_iff_eq] at hc
    intro x hx
    rcases List.mem_cons.1 hx with rfl | hx
    · exact hc
    · exact ih h x hx
 unfold Z66 at h
 cases hL : Z57 l with
 | true => rw [hL] at h; cases h
 | false => exact key l hL
theorem dn_deed {x : XDeed2} (ho : One x) {r : LK} {z : LZ} {v : LV} {s : LS} {q : LQ} (h : Dn p b4) (hb : b4.length ≤ p.length) (hl : p.length < 255) :
  Dn (Z10 x p r b1 b2 b3 b4 z v s q).2.2.2.2.2.1 (Z10 x p r b1 b2 b3 b4 z v s q).2.2.2.2.1 ∧ (Z10 x p r b1 b2 b3 b4 z v s q).2.2.2.2.1.length ≤ (Z10 x p r b1 b2 b3 b4 z v s q).2.2.2.2.2.1.length := by
 unfold Z10
 rw [ho.2]
 simp only [cond_false]
 cases hc : (!(x.tag == (0 : Int))) with
 | true => simp only [cond_true]; exact ⟨h, hb⟩
 | false =>
  simp only [cond_false]
  have e : (⟨x.c.verb, x.c.target, x.c.num, x.c.size, x.c.zone, x.c.node, x.c.source⟩ : XCall) = x.c := rfl
  rw [e]
  have fin : Z15 x.c = true → Dn (p ++ [x.c]) (Z1e x.c b1 b2 b3 b4).2.2.2.2 ∧ (Z1e x.c b1 b2 b3 b4).2.2.2.2.length ≤ (p ++ [x.c]).length := fun hR => by
   refine ⟨fun y hy => ?_, ?_⟩
   · rcases List.mem_append.1 hy with hy | hy
     · exact dn_do h x.c b1 b2 b3 y hy
     · rw [List.mem_singleton.1 hy]; exact dn_new hR (by omega) b1 b2 b3
   · have := do_len x.c b1 b2 b3 b4
     simp only [List.length_append, List.length_cons, List.length_nil]
     omega
  cases hR : Z15 x.c with
  | false => rw [csend_bad hR]; exact ⟨h, hb⟩
  | true =>
   rcases ho.1 with ho | ho
   · rw [ho, csend_0 hR (by omega)]; exact fin hR
   · rw [ho, csend_2 hR (by omega)]; exact fin hR
end
theorem cplayL_dn (l : List XDeed2) (hl : ∀ x ∈ l, D2 x) (h1 : ∀ x ∈ l, One x) : ∀ (g i : Nat) (p r : LK) (b1 : LA) (b2 : LB) (b3 : LC) (b4 : LD) (z : LZ) (v : LV) (s : LS) (q : LQ), i + g = 50 → IC i p r b1 b2 b3 b4 z v s q → Dn p b4 → b4.length ≤ p.length →
  ∃ p' r' b1' b2' b3' b4' z' v' s' q', (Z19 l (g + 1) i p r b1 b2 b3 b4 z v s q).2.2.2.2.2.2.2.2.2.2.2 = (p', r', b1', b2', b3', b4', z', v', s', q') ∧ (Z19 l (g + 1) i p r b1 b2 b3 b4 z v s q).1 = false ∧ Dn p' b4'
 | 0, i, p, r, b1, b2, b3, b4, z, v, s, q, hi, h, hd, hb => by
  unfold Z19
  have : cond (decide ((i : Int) < (l.length : Int))) (decide ((i : Int) < (50 : Int))) false = false := by
   rw [decide_eq_false (by omega : ¬ (i : Int) < 50)]
   cases decide ((i : Int) < (l.length : Int)) <;> rfl
  rw [this]
  exact ⟨_, _, _, _, _, _, _, _, _, _, rfl, rfl, hd⟩
 | g + 1, i, p, r, b1, b2, b3, b4, z, v, s, q, hi, h, hd, hb => by
  unfold Z19
  cases hc : cond (decide ((i : Int) < (l.length : Int))) (decide ((i : Int) < (50 : Int))) false with
  | false => exact ⟨_, _, _, _, _, _, _, _, _, _, rfl, rfl, hd⟩
  | true =>
   obtain ⟨h2, h3⟩ := cdo_ok h (l.getD i default) (hl _ (Z172 (Z127 hc).1))
   obtain ⟨h4, h5⟩ := dn_deed (x := l.getD i default) (h1 _ (Z172 (Z127 hc).1)) (r := r) (b1 := b1) (b2 := b2) (b3 := b3) (z := z) (v := v) (s := s) (q := q) hd hb (by have := h.2.2.1; omega)
   simp only [cond_true, h2, Bool.not_true, cond_false]
   exact cplayL_dn l hl h1 g (i + 1) _ _ _ _ _ _ _ _ _ _ (by omega) h3 h4 h5
theorem cplay_dn (l : List XDeed2) (hl : ∀ x ∈ l, D2 x) (h1 : ∀ x ∈ l, One x) : Dn (Z1 l).2.1 (Z1 l).2.2.2.2.2.2.1 := by
 obtain ⟨p, r, b1, b2, b3, b4, z, v, s, q, e1, e2, e3⟩ := cplayL_dn l hl h1 50 0 _ _ _ _ _ _ _ _ _ _ (by omega) cnew_ic nofun (Nat.le_refl _)
 unfold Z1
 rw [e2, e1]
 exact e3
section
variable {a : List XDeed2}
theorem newer_ex {i : Nat} : ∀ (n : Nat) (v : Bool) (k : Nat), Z49 a i n v k = true → v = true ∨ ∃ j, k ≤ j ∧ j < k + n ∧ Z4f ((Z1 a).2.1.getD i default) ((Z1 a).2.1.getD j default) = true ∧ ((Z1 a).2.1.getD j default).num > ((Z1 a).2.1.getD i default).num
 | 0, v, k, h => .inl h
 | n + 1, v, k, h => by
  unfold Z49 at h
  simp only [Z1a] at h
  rcases newer_ex n _ (k + 1) h with h1 | ⟨j, h1, h2, h3⟩
  · cases v with
    | true => exact .inl rfl
    | false =>
     rw [cond_false] at h1
     simp only [Bool.cond_false_right, Bool.and_eq_true] at h1
     exact .inr ⟨k, Nat.le_refl _, by omega, h1.1, of_decide_eq_true h1.2⟩
  · exact .inr ⟨j, by omega, by omega, h3⟩
theorem same_tgt {x y : XCall} (h : Z4f x y = true) : Z7f x = Z7f y := by
 unfold Z4f at h
 unfold Z7f Z4a
 simp only [Bool.cond_false_right, Bool.and_eq_true, decide_eq_true_eq, beq_iff_eq] at h
 rw [h.1, h.2]
theorem again_at {i : Nat} {p : LK} (hi : i < p.length) (b1 : LA) (b2 : LB) (b3 : LC) (b4 : LD) : Z4 (i : Int) p b1 b2 b3 b4 = (0, (Z1e (p.getD i default) b1 b2 b3 b4).2) := by
 unfold Z4
 rw [decide_eq_false (by omega : ¬ (i : Int) < 0), decide_eq_false (by omega : ¬ (i : Int) ≥ (p.length : Int))]
 rfl
theorem lateL_ok (ha : ∀ x ∈ a, D2 x) : ∀ (g i : Nat) (b1 : LA) (b2 : LB) (b3 : LC) (b4 : LD), i + g = 50 → (Z66 a = true → Dn (Z1 a).2.1 b4) → (Z34 a (g + 1) i b1 b2 b3 b4).1 = false
 | 0, i, b1, b2, b3, b4, hi, hd => by
  unfold Z34
  cases hc : decide ((i : Int) < ((Z1a ((Z1 a).2.1) ((Z1 a).2.2.2.1) ((Z1 a).2.2.2.2.1) ((Z1 a).2.2.2.2.2.1) ((Z1 a).2.2.2.2.2.2.1)).length : Int)) with
  | false => rfl
  | true => have := (Z121 ha hc).2; omega
 | g + 1, i, b1, b2, b3, b4, hi, hd => by
  unfold Z34
  cases hc : decide ((i : Int) < ((Z1a ((Z1 a).2.1) ((Z1 a).2.2.2.1) ((Z1 a).2.2.2.2.1) ((Z1 a).2.2.2.2.2.1) ((Z1 a).2.2.2.2.2.2.1)).length : Int)) with
  | false => rfl
  | true =>
   have hlt : i < (Z1 a).2.1.length := (Z121 ha hc).1
   have hA := again_at hlt b1 b2 b3 b4
   rw [cond_true, hA]
   have hN : cond (cond (Z49 a i (((i : Int).toNat)) false 0) (Z66 a) false) (!(Zaf ((Z1 a).2.1) ((Z13 ((Z1 a).2.1) b1 b2 b3 b4).1) (Z1e ((Z1 a).2.1.getD i default) b1 b2 b3 b4).2.1 (Z1e ((Z1 a).2.1.getD i default) b1 b2 b3 b4).2.2.1 (Z1e ((Z1 a).2.1.getD i default) b1 b2 b3 b4).2.2.2.1 (Z1e ((Z1 a).2.1.getD i default) b1 b2 b3 b4).2.2.2.2 ((Z13 ((Z1 a).2.1) b1 b2 b3 b4).2.1) ((Z13 ((Z1 a).2.1) b1 b2 b3 b4).2.2.1) ((Z13 ((Z1 a).2.1) b1 b2 b3 b4).2.2.2.1) ((Z13 ((Z1 a).2.1) b1 b2 b3 b4).2.2.2.2))) false = false := by
    cases hL : Z49 a i (((i : Int).toNat)) false 0 with
    | false => rfl
    | true =>
     cases hD : Z66 a with
     | false => rfl
     | true =>
      rcases newer_ex _ _ _ hL with h1 | ⟨j, _, h1, h2, h3⟩
      · cases h1
      · have hj : j < (Z1 a).2.1.length := by
          have : ((i : Int).toNat) = i := Int.toNat_natCast i
          omega
        obtain ⟨d, h4, h5⟩ := hd hD _ (Z172 hj)
        have h6 := do_old (c := (Z1 a).2.1.getD i default) (b1 := b1) (b2 := b2) (b3 := b3) (b4 := b4) ⟨d, by rw [same_tgt h2]; exact h4, by omega⟩
        rw [h6]
        show (!(Zaf ((Z1 a).2.1) ((Z1 a).2.1) b1 b2 b3 b4 b1 b2 b3 b4)) = false
        rw [calike_self]
        rfl
   simp only [beq_self_eq_true, Bool.not_true, cond_false, hN]
   exact lateL_ok ha g (i + 1) _ _ _ _ (by omega) fun h => dn_do (hd h) _ b1 b2 b3
theorem again_no {i : Int} {p : LK} (hi : i < 0 ∨ i ≥ (p.length : Int)) (b1 : LA) (b2 : LB) (b3 : LC) (b4 : LD) : (Z4 i p b1 b2 b3 b4).1 = 3 := by
 unfold Z4
 have : cond (decide (i < (0 : Int))) true (decide (i ≥ (p.length : Int))) = true := by
  simp only [Bool.cond_true_left, Bool.or_eq_true, decide_eq_true_eq]
  exact hi
 rw [this]
 rfl
theorem clate_true (ha : ∀ x ∈ a, D2 x) : Z68 a = true := by
 have h5 : (Z1 a).1 = true := by
  obtain ⟨p, r, b1, b2, b3, b4, z, v, s, q, e, _⟩ := cplay_ok a ha
  rw [e]
 have h6 := lateL_ok ha 50 0 (Z1 a).2.2.2.1 (Z1 a).2.2.2.2.1 (Z1 a).2.2.2.2.2.1 (Z1 a).2.2.2.2.2.2.1 rfl fun h => cplay_dn a ha (doneOne_all h)
 unfold Z68
 (try simp only [kCl0])
 rw [clive_true, h5, h6]
 simp only [Bool.not_true, cond_true, cond_false, Z1a]
 rw [again_no (p := (Z1 a).2.1) (.inr (Int.le_refl _)), again_no (i := -1) (.inl (by decide))]
 rfl
end
end Go.Proofs.YtkledlcmhbjadaaGreat
