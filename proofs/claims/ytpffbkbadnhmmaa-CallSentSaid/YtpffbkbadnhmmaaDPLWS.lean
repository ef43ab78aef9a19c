/- The calls, plainly: the law CallSent. -/
import Derived.Test.YtpffbkbadnhmmaaDLawCallSent
import Derived.Test.YtpffbkbadnhmmaaDPLW0
set_option linter.unusedVariables false
set_option linter.unusedSimpArgs false
set_option maxRecDepth 100000
namespace Go.Proofs.Ytpffbkbadnhmmaa
open Go Go.Eng
theorem ne_cond {β : Type} {c : Bool} {x y : XRes × β} (hx : x.1.err ≠ 2) (hy : y.1.err ≠ 2) : (cond c x y).1.err ≠ 2 := by cases c <;> assumption
section
variable {c : XCall} {b1 : LA} {b2 : LB} {b3 : LC} {b4 : LD}
theorem source_ne (n : BA) : (Z2e n b1 b2 b3 b4).2 ≠ 2 := by
 unfold Z2e
 cases decide (n = (⟨#[]⟩ : BA)) <;> cases (mget (k := .str) (v := .sn) b3 n).isSome <;> cases (vget b2 n).isSome <;> simp
theorem create_ne : (Z23 c b1 b2 b3 b4).1.err ≠ 2 := by
 unfold Z23
 repeat' apply ne_cond
 all_goals intro h
 all_goals first
  | exact absurd (show (Z2e c.source b1 b2 b3 b4).2 = 2 from h) (source_ne _)
  | cases h
theorem expand_ne : (Z25 c b1 b2 b3 b4).1.err ≠ 2 := by
 unfold Z25
 repeat' apply ne_cond
 all_goals (intro h; cases h)
theorem cut_ne : (Z46 c b1 b2 b3 b4).1.err ≠ 2 := by
 unfold Z46
 repeat' apply ne_cond
 all_goals (intro h; cases h)
theorem act_ne : (Z1b c b1 b2 b3 b4).1.err ≠ 2 := by
 unfold Z1b
 repeat' (first | exact create_ne | exact expand_ne | exact cut_ne | apply ne_cond)
 all_goals (intro h; cases h)
def NE (b4 : LD) : Prop := ∀ t p, aget b4 t = some p → p.r.err ≠ 2
theorem do_ne (h : NE b4) (c : XCall) : NE (Z1e c b1 b2 b3 b4).2.2.2.2 ∧ (Z15 c = true → (Z1e c b1 b2 b3 b4).1.err ≠ 2) := by
 have hd := do_cases c b1 b2 b3 b4
 generalize Z1e c b1 b2 b3 b4 = x at hd
 cases hd with
 | form hr => exact ⟨h, fun e => by rw [hr] at e; cases e⟩
 | full hr hn hl => exact ⟨h, fun _ e => by cases e⟩
 | stale hr p hp hl => exact ⟨h, fun _ e => by cases e⟩
 | again hr p hp hl => exact ⟨h, fun _ => h _ _ hp⟩
 | other hr p hp hl hc => exact ⟨h, fun _ e => by cases e⟩
 | new hr hp r hx =>
  have hne : r.err ≠ 2 := by
   rcases hx with rfl | ⟨_, rfl⟩ <;> exact act_ne
  refine ⟨fun t p ht => ?_, fun _ => hne⟩
  have ht : aget (aset b4 (tgtOf c) ⟨c, r⟩) t = some p := ht
  rw [aget_aset] at ht
  split at ht
  · injection ht with ht
    subst ht
    exact hne
  · exact h _ _ ht
theorem again_ne (h : NE b4) (i : Int) (p : LK) : NE (Z3 i p b1 b2 b3 b4).2.2.2.2 := by
 unfold Z3
 cases cond (decide (i < (0 : Int))) true (decide (i ≥ (p.length : Int))) with
 | true => exact h
 | false => exact (do_ne h _).1
theorem send_ne (h : NE b4) (x : XCall) (o : Int) (p : LK) : NE (Z1 x o p b1 b2 b3 b4).2.2.2.2.1 := by
 have hd := (do_ne (b1 := b1) (b2 := b2) (b3 := b3) h x).1
 unfold Z1
 cases cond (!(Z15 x)) true (decide (o > (3 : Int)))
 · cases decide ((p.length : Int) ≥ (4096 : Int))
   · cases o == (0 : Int)
     · cases o == (2 : Int)
       · cases o == (3 : Int) <;> exact h
       · exact hd
     · exact hd
   · exact h
 · exact h
theorem cdo_ne (h : NE b4) (x : XDeed2) (p r : LK) (z : LZ) (v : LV) (s : LS) (q : LQ) : NE (Z16 x p r b1 b2 b3 b4 z v s q).2.2.2.2.1 := by
 unfold Z16
 cases x.again
 · simp only [cond_false]
   cases (!(x.tag == (0 : Int)))
   · exact send_ne h _ _ _
   · exact h
 · exact again_ne h _ _
end
theorem cplayN_ok (l : List XDeed2) (hl : ∀ x ∈ l, D2 x) : ∀ (g i : Nat) (p r : LK) (b1 : LA) (b2 : LB) (b3 : LC) (b4 : LD) (z : LZ) (v : LV) (s : LS) (q : LQ), i + g = 50 → IC i p r b1 b2 b3 b4 z v s q → NE b4 →
  NE (Z1c l (g + 1) i p r b1 b2 b3 b4 z v s q).2.2.2.2.2.2.2.2.2.2.2.2.2.2.2.2.1
 | 0, i, p, r, b1, b2, b3, b4, z, v, s, q, hi, h, hn => by
  unfold Z1c
  have : cond (decide ((i : Int) < (l.length : Int))) (decide ((i : Int) < (50 : Int))) false = false := by
   rw [decide_eq_false (by omega : ¬ (i : Int) < 50)]
   cases decide ((i : Int) < (l.length : Int)) <;> rfl
  rw [this]
  exact hn
 | g + 1, i, p, r, b1, b2, b3, b4, z, v, s, q, hi, h, hn => by
  unfold Z1c
  cases hc : cond (decide ((i : Int) < (l.length : Int))) (decide ((i : Int) < (50 : Int))) false with
  | false => exact hn
  | true =>
   obtain ⟨h1, h2⟩ := cdo_ok h (l.getD i default) (hl _ (gD_mem (cplay_test hc).1))
   simp only [cond_true, h1, Bool.not_true, cond_false]
   exact cplayN_ok l hl g (i + 1) _ _ _ _ _ _ _ _ _ _ (by omega) h2 (cdo_ne hn _ _ _ _ _ _ _)
theorem cplay_ne (l : List XDeed2) (hl : ∀ x ∈ l, D2 x) : NE (Z0 l).2.2.2.2.2.2.1 := by
 obtain ⟨p, r, b1, b2, b3, b4, z, v, s, q, e1, e2, _⟩ := cplayL_ok l hl 50 0 _ _ _ _ _ _ _ _ _ _ (by omega) cnew_ic
 have h := cplayN_ok l hl 50 0 _ _ _ _ _ _ _ _ _ _ (by omega) cnew_ic (fun t p h => by cases h)
 unfold Z0
 rw [e1]
 exact h
theorem csent_true {l : List XDeed2} (hl : ∀ x ∈ l, D2 x) {x : XDeed2} (hx : D2 x) : Z50 l x = true := by
 unfold Z50
 have hne := cplay_ne l hl
 obtain ⟨p, r, b1, b2, b3, b4, z, v, s, q, e, h⟩ := cplay_ok l hl
 have hp : p.length ≤ 50 := h.2.2.1
 rw [e] at hne
 have hna : NE (Z3 x.i p b1 b2 b3 b4).2.2.2.2 := again_ne hne _ _
 have hxe : (⟨x.c.verb, x.c.target, x.c.num, x.c.size, x.c.zone, x.c.node, x.c.source⟩ : XCall) = x.c := rfl
 simp only [kCs0, kCs1, kCs2, kCs3, kCs4, clive_true, e, Zc, hxe]
 generalize (Z3 x.i p b1 b2 b3 b4).2 = y at hna
 rw [sameCalls_self]
 cases hR : Z15 x.c with
 | false =>
  simp only [csend_bad hR, errR]
  rw [sameCalls_self]
  rfl
 | true =>
  by_cases ho : x.o > 3
  · have : Z1 x.c x.o p y.1 y.2.1 y.2.2.1 y.2.2.2 = (errR 2, y.1, y.2.1, y.2.2.1, y.2.2.2, p) := by
      unfold Z1
      rw [hR, decide_eq_true ho]
      rfl
    rw [this]
    simp only [errR]
    rw [sameCalls_self]
    rfl
  · have key : (Z1 x.c x.o p y.1 y.2.1 y.2.2.1 y.2.2.2).1.err ≠ 2 ∧ (Z1 x.c x.o p y.1 y.2.1 y.2.2.1 y.2.2.2).2.2.2.2.2 = p ++ [x.c] := by
      have hl : p.length < 4096 := by omega
      have h4 : x.o = 0 ∨ x.o = 1 ∨ x.o = 2 ∨ x.o = 3 := by have := hx.2; omega
      rcases h4 with h4 | h4 | h4 | h4 <;> rw [h4]
      · rw [csend_0 hR hl]; exact ⟨(do_ne hna x.c).2 hR, rfl⟩
      · rw [csend_1 hR hl]; exact ⟨(by intro h; cases h), rfl⟩
      · rw [csend_2 hR hl]; exact ⟨(by intro h; cases h), rfl⟩
      · rw [csend_3 hR hl]; exact ⟨(by intro h; cases h), rfl⟩
    have hw : IntKind.i64.wrap ((p.length : Int) + 1) = (p.length : Int) + 1 := by rw [IntKind.wrap_i64]; omega
    have ht : ((p ++ [x.c]).take p.length).drop 0 = p := by simp
    have hg : (p ++ [x.c]).getD ((p.length : Int).toNat) default = x.c := by simp [List.getD_eq_getElem?_getD]
    rw [key.2, beq_eq_false_iff_ne.2 key.1, hw, ht, hg, sameCalls_self]
    simp
end Go.Proofs.Ytpffbkbadnhmmaa
