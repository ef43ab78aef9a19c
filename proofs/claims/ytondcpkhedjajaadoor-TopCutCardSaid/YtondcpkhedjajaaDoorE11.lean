/- The engine, part 10: code, functions. -/
import Derived.Test.YtondcpkhedjajaaDoorE10
set_option linter.unusedVariables false
set_option linter.unusedSimpArgs false
namespace Go.Eng
open Go.RowKit (Below)
variable {D : List Deferred}

/-- Where a test has been decided its slot is told. -/
def setB (s : St) (c : Operand) (b : Bool) : St :=
  match c with
  | .tmp d => ⟨s.t.set d (.bool b), s.h⟩
  | _ => s
/-- The rows of loops: by the number of the block around: what the loop comes to from a state. -/
abbrev Loops := Nat → St → Option (St × List Nat × Tree)
def evReg (E : Env) (draw : Bool) (ops : List Oper) (s : St) : Tree := if draw then (match evDraw E ops s with
    | some ([], s') => .leaf .normal s'
    | some (p :: ps, s') => .need (p :: ps) (.leaf .normal s')
    | none => .fail) else evRegion E ops s
def evCode (E : Env) (L : Loops) : Nat → Nat → Code → St → Tree
  | 0, _, _, _ => .fail
  | n + 1, bid, c, s => match c with
    | .skip => .leaf .normal s
    | .region _ ops draw => evReg E draw ops.toList s
    | .seq x y => (evCode E L n bid x s).bind fun e s' => match e with
      | .normal => evCode E L n bid y s'
      | e => .leaf e s'
    | .cond c x y => match ungrd [] (opd s.t c) with
      | .bool b => .ask b (evCode E L n bid x (setB s c true)) (evCode E L n bid y (setB s c false))
      | _ => .fail
    | .block id x => (evCode E L n id x s).bind fun e s' => match e with
      | .exit i => if i = id then .leaf .normal s' else .leaf (.exit i) s'
      | e => .leaf e s'
    | .loop _ => match L bid s with
      | some (p, σ, T) => .same p σ s T
      | none => .fail
    | .exit id => .leaf (.exit id) s
    | .label _ => .leaf .normal s
    | .goto l => .leaf (.goto l) s
    | .ret => .leaf .ret s
    | .scope x => (evCode E L n bid x s).bind fun e s' => match e with
      | .goto l => match findLabel x l with
        | some rest => (evCode E L n bid rest s').bind fun e s'' => match e with
          | .goto _ => .fail
          | e => .leaf e s''
        | none => .fail
      | e => .leaf e s'
    | _ => .fail

/-- From any memory that is as the state says the code comes to what Q says. -/
def Tr (P : Program) (k : Nat) (c : Code) (s : St) (Q : Exit → St → Prop) : Prop :=
  ∀ (D : List Deferred) (B : Nat → Prop) (w0 : World) (M0 : Mem) (a : Act) (w : World) (ρ : Loc) (M : Mem), Sim D B w0 M0 s a w ρ M →
    c.wp P (fun e a' w' => ∃ s' ρ' M', Q e s' ∧ kept k ρ ρ' ∧ M.le M' ∧ Sim D B w0 M0 s' a' w' ρ' M') a w
theorem Tr.mono {P : Program} {k : Nat} {c : Code} {s : St} {Q Q' : Exit → St → Prop} (h : Tr P k c s Q) (hq : ∀ e s, Q e s → Q' e s) : Tr P k c s Q' := fun D B w0 M0 a w ρ M H =>
  wp_mono (h D B w0 M0 a w ρ M H) fun _ _ _ ⟨s', ρ', M', h1, h2⟩ => ⟨s', ρ', M', hq _ _ h1, h2⟩
/-- The loops of a piece of code do what is told of them. -/
def LoopsOk (P : Program) (k : Nat) (L : Loops) : Nat → Code → Prop
  | bid, .loop c => ∀ s p σ T, L bid s = some (p, σ, T) → ∀ Q, T.All Q → ∀ s', pull σ p s' = push σ p → Tr P k (.loop c) s' Q
  | bid, .seq x y => LoopsOk P k L bid x ∧ LoopsOk P k L bid y
  | bid, .cond _ x y => LoopsOk P k L bid x ∧ LoopsOk P k L bid y
  | _, .block id x => LoopsOk P k L id x
  | bid, .scope x => LoopsOk P k L bid x
  | _, _ => True
theorem LoopsOk.rest {P : Program} {k : Nat} {L : Loops} {bid : Nat} : ∀ {c : Code} {l : Nat} {r : Code}, LoopsOk P k L bid c → findLabel c l = some r → LoopsOk P k L bid r
  | .seq x y, l, r, h, hf => by
    simp only [findLabel] at hf
    split at hf
    · rename_i r' hr
      injection hf with hf
      subst hf
      exact ⟨LoopsOk.rest h.1 hr, h.2⟩
    · exact LoopsOk.rest h.2 hf
  | .label l', l, r, _, hf => by
    simp only [findLabel] at hf
    split at hf
    · injection hf with hf; subst hf; trivial
    · cases hf
  | .skip, _, _, _, hf | .region .., _, _, _, hf | .cond .., _, _, _, hf | .block .., _, _, _, hf | .loop _, _, _, _, hf | .rangeFunc .., _, _, _, hf | .exit _, _, _, _, hf | .scope _, _, _, _, hf | .goto _, _, _, _, hf | .ret, _, _, _, hf | .refuse _, _, _, _, hf => by cases hf

section
variable {E : Env} {L : Loops}
theorem SimT.setB {ρ : Loc} {M : Mem} {t : List AV} {h : List AObj} {a : Act} (T : SimT D ρ M noG t a) {c : Operand} {b : Bool} (hb : a.eval c = .bool b) : SimT D ρ M noG (Go.Eng.setB ⟨t, h⟩ c b).t a := by
  cases c with
  | tmp d =>
    refine ⟨by simp [Go.Eng.setB, T.len], T.defers, fun i => ?_⟩
    simp only [Go.Eng.setB]
    rw [set_getD]
    split
    · rename_i hd
      obtain ⟨rfl, _⟩ := hd
      exact hb
    · exact T.at_ i
  | _ => exact T
theorem evCode_sound (hK : KOk E) {k : Nat} : ∀ (n bid : Nat) (c : Code) (s : St) (Q : Exit → St → Prop), LoopsOk E.P k L bid c → (evCode E L n bid c s).All Q → Tr E.P k c s Q := by
  intro n
  induction n with
  | zero => intro bid c s Q _ h; exact h.elim
  | succ n ih =>
    intro bid c s Q hL h D B w0 M0 a w ρ M H
    cases c with
    | skip => exact wp_skip ⟨s, ρ, M, h, .refl _ _, Mem.le_refl _, H⟩
    | region id ops draw =>
      simp only [evCode] at h
      have hops : ops = ops.toList.toArray := by simp
      unfold evReg at h
      rw [hops]
      cases draw with
      | false => exact evRegion_sound hK (by simpa using h) H
      | true =>
        simp only [if_true] at h
        have hh : ∃ p s', evDraw E ops.toList s = some (p, s') ∧ (∀ q ∈ p, q) ∧ Q .normal s' := by
          split at h
          · rename_i s' he; exact ⟨[], s', he, by simp, h⟩
          · rename_i p ps s' he; exact ⟨_, s', he, h.1, h.2⟩
          · exact h.elim
        obtain ⟨p, s', he, hp, hq⟩ := hh
        exact evDraw_sound hK he hp H _ fun a' w' ρ' M' l1 l2 H' => ⟨s', ρ', M', hq, .of_le l1, l2, H'⟩
    | seq x y =>
      simp only [evCode] at h
      have h1 := ih bid x s _ hL.1 (Tree.All_bind h) D B w0 M0 a w ρ M H
      refine wp_seq (wp_mono h1 ?_)
      rintro e a1 w1 ⟨s1, ρ1, M1, hq, l1, l2, H1⟩
      cases e with
      | normal =>
        simp only [Exit.then]
        exact wp_mono (ih bid y s1 Q hL.2 hq D B w0 M0 a1 w1 ρ1 M1 H1) fun e a2 w2 ⟨s2, ρ2, M2, q, k1, k2, H2⟩ => ⟨s2, ρ2, M2, q, l1.trans k1, Mem.le_trans l2 k2, H2⟩
      | _ => exact ⟨s1, ρ1, M1, hq, l1, l2, H1⟩
    | cond c x y =>
      simp only [evCode] at h
      split at h
      · rename_i b hb
        have hv : a.eval c = .bool b := by
          have : rep ρ M noG (ungrd [] (opd s.t c)) (a.eval c) := by
            cases c with
            | tmp i =>
              have := H.t.at_ i
              simp only [opd]
              generalize s.t.getD i .unk = x at this ⊢
              cases x
              case grd => simp [ungrd, rep]
              all_goals exact this
            | const v =>
              have := rep_avOf ρ M noG v
              simp only [opd, Act.eval] at this ⊢
              generalize avOf v = x at this ⊢
              cases x
              case grd => simp [ungrd, rep]
              all_goals exact this
            | global g => simp [opd, ungrd, rep]
            | func f => simp only [opd, ungrd, rep, Act.eval]; exact ⟨[], rfl, by simp [repL]⟩
          rw [hb] at this
          simpa [rep] using this
        refine wp_cond_split hv (fun hbt => ?_) (fun hbf => ?_)
        · subst hbt
          refine wp_mono (ih bid x _ Q hL.1 (h.1 rfl) D B w0 M0 a w ρ M ⟨?_, SimT.setB (h := s.h) H.t hv⟩) fun e a' w' hh => hh
          have : (setB s c true).h = s.h := by unfold setB; split <;> rfl
          rw [this]; exact H.h
        · subst hbf
          refine wp_mono (ih bid y _ Q hL.2 (h.2 rfl) D B w0 M0 a w ρ M ⟨?_, SimT.setB (h := s.h) H.t hv⟩) fun e a' w' hh => hh
          have : (setB s c false).h = s.h := by unfold setB; split <;> rfl
          rw [this]; exact H.h
      · exact h.elim
    | block id x =>
      simp only [evCode] at h
      have h1 := ih id x s _ hL (Tree.All_bind h) D B w0 M0 a w ρ M H
      refine wp_block (wp_mono h1 ?_)
      rintro e a1 w1 ⟨s1, ρ1, M1, hq, l1, l2, H1⟩
      cases e with
      | exit i =>
        simp only [Exit.inBlock] at hq ⊢
        split
        · rename_i hi; rw [if_pos hi] at hq; exact ⟨s1, ρ1, M1, hq, l1, l2, H1⟩
        · rename_i hi; rw [if_neg hi] at hq; exact ⟨s1, ρ1, M1, hq, l1, l2, H1⟩
      | _ => exact ⟨s1, ρ1, M1, hq, l1, l2, H1⟩
    | loop x =>
      simp only [evCode] at h
      split at h
      · rename_i p σ T hT
        exact hL s p σ T hT Q h.2 s h.1 D B w0 M0 a w ρ M H
      · exact h.elim
    | exit id => exact wp_exit ⟨s, ρ, M, h, .refl _ _, Mem.le_refl _, H⟩
    | label l => exact wp_label ⟨s, ρ, M, h, .refl _ _, Mem.le_refl _, H⟩
    | goto l => exact wp_goto ⟨s, ρ, M, h, .refl _ _, Mem.le_refl _, H⟩
    | ret => exact wp_ret ⟨s, ρ, M, h, .refl _ _, Mem.le_refl _, H⟩
    | scope x =>
      simp only [evCode] at h
      have h1 := ih bid x s _ hL (Tree.All_bind h) D B w0 M0 a w ρ M H
      intro b kk cs
      obtain ⟨e, a1, w1, ⟨s1, ρ1, M1, hq, l1, l2, H1⟩, harr⟩ := h1 b (.inScope x :: kk) cs
      cases e with
      | normal => exact ⟨.normal, a1, w1, ⟨s1, ρ1, M1, hq, l1, l2, H1⟩, .head step_scope (Steps.trans harr (.one step_inScope))⟩
      | exit id => exact ⟨.exit id, a1, w1, ⟨s1, ρ1, M1, hq, l1, l2, H1⟩, fun k' hk => .head step_scope (harr k' (by simp [exitTo, hk]))⟩
      | goto l =>
        simp only [] at hq
        split at hq
        · rename_i rest hf
          have hg : gotoIn l (.inScope x :: kk) = some (.code rest :: .inScope x :: kk) := by simp [gotoIn, hf]
          have h2 := ih bid rest s1 _ (LoopsOk.rest (k := k) (c := x) (bid := bid) (by exact hL) hf) (Tree.All_bind hq) D B w0 M0 a1 w1 ρ1 M1 H1
          obtain ⟨e2, a2, w2, ⟨s2, ρ2, M2, hq2, k1, k2, H2⟩, harr2⟩ := h2 b (.inScope x :: kk) cs
          have st := Steps.head step_scope (harr _ hg)
          have post : ∀ {q : Q e2 s2}, ∃ s' ρ' M', Q e2 s' ∧ kept k ρ ρ' ∧ M.le M' ∧ Sim D B w0 M0 s' a2 w2 ρ' M' := fun {q} => ⟨s2, ρ2, M2, q, l1.trans k1, Mem.le_trans l2 k2, H2⟩
          cases e2 with
          | normal => exact ⟨.normal, a2, w2, post (q := hq2), Steps.trans st (Steps.trans harr2 (.one step_inScope))⟩
          | exit id => exact ⟨.exit id, a2, w2, post (q := hq2), fun k' hk => st.trans (harr2 k' (by simp [exitTo, hk]))⟩
          | goto l' => exact hq2.elim
          | ret => exact ⟨_, a2, w2, post (q := hq2), .of_steps st harr2⟩
          | panic ch => exact ⟨_, a2, w2, post (q := hq2), .of_steps st harr2⟩
          | outgrown => exact ⟨_, a2, w2, post (q := hq2), .of_steps (b := b) (k := kk) (cs := cs) (e := .outgrown) st harr2⟩
        · exact hq.elim
      | ret => exact ⟨_, a1, w1, ⟨s1, ρ1, M1, hq, l1, l2, H1⟩, .of_steps (.one step_scope) harr⟩
      | panic ch => exact ⟨_, a1, w1, ⟨s1, ρ1, M1, hq, l1, l2, H1⟩, .of_steps (.one step_scope) harr⟩
      | outgrown => exact ⟨_, a1, w1, ⟨s1, ρ1, M1, hq, l1, l2, H1⟩, .of_steps (b := b) (k := kk) (cs := cs) (e := .outgrown) (.one step_scope) harr⟩
    | rangeFunc f ps aas x => exact h.elim
    | refuse why => exact h.elim
end

end Go.Eng
