/- The engine, part 12: less is told of a state, by other numbers; trees that are typed; loops. -/
import Derived.Test.YtnfmnipckcidlaaDoorE11
import Derived.Deep.LoopGhost
set_option linter.unusedVariables false
set_option linter.unusedSimpArgs false
namespace Go.Eng
open Go.RowKit (Below)
variable {D : List Deferred}

mutual
/-- It speaks of objects below n alone. -/
def AV.lt (n : Nat) : AV → Bool
  | .ptr id _ => decide (id < n)
  | .evp id _ _ _ => decide (id < n)
  | .vec id => decide (id < n)
  | .vsub id _ _ _ => decide (id < n)
  | .map id => decide (id < n)
  | .yld id => decide (id < n)
  | .agg cs => ltL n cs
  | .tup cs => ltL n cs
  | .fn _ cs => ltL n cs
  | .iface _ x => x.lt n
  | .grd .. => false
  | _ => true
def ltL (n : Nat) : List AV → Bool
  | [] => true
  | x :: xs => x.lt n && ltL n xs
end
def AObj.lt (n : Nat) : AObj → Bool
  | .cells _ cs => ltL n cs
  | .loop _ cs _ => ltL n cs
  | _ => true
def St.wf (s : St) : Bool := ltL s.h.length s.t && s.h.all (AObj.lt s.h.length)
theorem ltL_getD {n : Nat} : ∀ {l : List AV}, ltL n l = true → ∀ i, (l.getD i .unk).lt n = true
  | [], _, i => by simp [AV.lt]
  | x :: xs, h, 0 => by simp only [ltL, Bool.and_eq_true] at h; simpa using h.1
  | x :: xs, h, i + 1 => by simp only [ltL, Bool.and_eq_true] at h; simpa using ltL_getD h.2 i
mutual
theorem rep_ren {ρ ρ' : Loc} {M : Mem} {G G' : Nat → Bool → Prop} {σ : Nat → Nat} {n : Nat} (hσ : ∀ k, k < n → ρ (σ k) = ρ' k) : ∀ (x : AV) (v : Value), x.lt n = true → (rep ρ M G (ren σ x) v ↔ rep ρ' M G' x v)
  | .unk, _, _ => by simp [ren, rep]
  | .int _ _, _, _ => by simp [ren, rep]
  | .bool _, _, _ => by simp [ren, rep]
  | .str _, _, _ => by simp [ren, rep]
  | .nilp, _, _ => by simp [ren, rep]
  | .ptr id _, v, hc => by simp only [rep, AV.lt, decide_eq_true_eq, ren] at hc ⊢; rw [hσ id hc]
  | .ep _ _ _, _, _ => by simp only [ren, rep]
  | .evp id _ _ _, v, hc => by simp only [rep, AV.lt, decide_eq_true_eq, ren] at hc ⊢; rw [hσ id hc]
  | .agg cs, v, hc => by
    simp only [rep, AV.lt, ren] at hc ⊢
    exact ⟨fun ⟨vs, h1, h2⟩ => ⟨vs, h1, (repL_ren hσ cs vs hc).1 h2⟩, fun ⟨vs, h1, h2⟩ => ⟨vs, h1, (repL_ren hσ cs vs hc).2 h2⟩⟩
  | .tup cs, v, hc => by
    simp only [rep, AV.lt, ren] at hc ⊢
    exact ⟨fun ⟨vs, h1, h2⟩ => ⟨vs, h1, (repL_ren hσ cs vs hc).1 h2⟩, fun ⟨vs, h1, h2⟩ => ⟨vs, h1, (repL_ren hσ cs vs hc).2 h2⟩⟩
  | .nils, _, _ => by simp [ren, rep]
  | .vec id, v, hc => by simp only [rep, AV.lt, decide_eq_true_eq, ren] at hc ⊢; rw [hσ id hc]
  | .vsub id _ _ _, v, hc => by simp only [rep, AV.lt, decide_eq_true_eq, ren] at hc ⊢; rw [hσ id hc]
  | .coll _, _, _ => by simp only [ren, rep]
  | .fn f cs, v, hc => by
    simp only [rep, AV.lt, ren] at hc ⊢
    exact ⟨fun ⟨vs, h1, h2⟩ => ⟨vs, h1, (repL_ren hσ cs vs hc).1 h2⟩, fun ⟨vs, h1, h2⟩ => ⟨vs, h1, (repL_ren hσ cs vs hc).2 h2⟩⟩
  | .yld id, v, hc => by simp only [rep, AV.lt, decide_eq_true_eq, ren] at hc ⊢; rw [hσ id hc]
  | .nxt _ _ _, _, _ => by simp only [ren, rep]
  | .nilf, _, _ => by simp [ren, rep]
  | .map id, v, hc => by simp only [rep, AV.lt, decide_eq_true_eq, ren] at hc ⊢; rw [hσ id hc]
  | .nilm, _, _ => by simp [ren, rep]
  | .nili, _, _ => by simp [ren, rep]
  | .iface t x, v, hc => by
    simp only [rep, AV.lt, ren] at hc ⊢
    exact ⟨fun ⟨u, h1, h2⟩ => ⟨u, h1, (rep_ren hσ x u hc).1 h2⟩, fun ⟨u, h1, h2⟩ => ⟨u, h1, (rep_ren hσ x u hc).2 h2⟩⟩
  | .grd _ _ _, _, hc => by simp [AV.lt] at hc
theorem repL_ren {ρ ρ' : Loc} {M : Mem} {G G' : Nat → Bool → Prop} {σ : Nat → Nat} {n : Nat} (hσ : ∀ k, k < n → ρ (σ k) = ρ' k) : ∀ (xs : List AV) (vs : List Value), ltL n xs = true → (repL ρ M G (renL σ xs) vs ↔ repL ρ' M G' xs vs)
  | [], [], _ => by simp [renL, repL]
  | x :: xs, v :: vs, hc => by simp only [renL, repL, ltL, Bool.and_eq_true] at hc ⊢; rw [rep_ren hσ x v hc.1, repL_ren hσ xs vs hc.2]
  | [], _ :: _, _ => by simp [renL, repL]
  | _ :: _, [], _ => by simp [renL, repL]
end
/-- The same object, seen by another number. -/
theorem okObj.unren {ρ ρ' : Loc} {M : Mem} {w : World} {σ : Nat → Nat} {n k : Nat} {o : AObj} (hσ : ∀ k, k < n → ρ (σ k) = ρ' k) (hown : ∀ r, ρ.own r = some (σ k) → ρ'.own r = some k) (hk : k < n) (ho : o.lt n = true) (h : okObj ρ M w (σ k) (renO σ o)) : okObj ρ' M w k o := by
  have e := (hσ k hk).symm
  cases o with
  | dead => trivial
  | cells t cs => obtain ⟨r, vs, h1, h2, h3, h4, h5⟩ := h; exact ⟨r, vs, e.trans h1, hown r h2, h3, (repL_ren hσ cs vs ho).1 h4, h5⟩
  | vec f c =>
    obtain ⟨hv, h1, h2⟩ := h
    refine ⟨hv, e.trans h1, ?_⟩
    rcases h2 with h2 | ⟨r, cap, vs, t, q, h4, h5⟩
    · exact .inl h2
    · exact .inr ⟨r, cap, vs, t, q, hown r h4, h5⟩
  | map m => obtain ⟨r, ents, clock, h1, h2, h3, h4⟩ := h; exact ⟨r, ents, clock, e.trans h1, hown r h2, h3, h4⟩
  | iter s pos => obtain ⟨r, h1, h2, h3, h4⟩ := h; exact ⟨r, e.trans h1, hown r h2, h3, h4⟩
  | loop site t pd => obtain ⟨r, rec, h1, h2, h3, q1, q2, q3, h4, h5⟩ := h; exact ⟨r, rec, e.trans h1, hown r h2, h3, q1, q2, q3, (repL_ren hσ t rec.tmps.toList ho).1 h4, h5⟩
theorem okObj.ren {ρ ρ' : Loc} {M : Mem} {w : World} {σ : Nat → Nat} {n k : Nat} {o : AObj} (hσ : ∀ k, k < n → ρ (σ k) = ρ' k) (hown : ∀ r, ρ'.own r = some k → ρ.own r = some (σ k)) (hk : k < n) (ho : o.lt n = true) (h : okObj ρ' M w k o) : okObj ρ M w (σ k) (renO σ o) := by
  have e := hσ k hk
  cases o with
  | dead => trivial
  | cells t cs => obtain ⟨r, vs, h1, h2, h3, h4, h5⟩ := h; exact ⟨r, vs, e.trans h1, hown r h2, h3, (repL_ren hσ cs vs ho).2 h4, h5⟩
  | vec f c =>
    obtain ⟨hv, h1, h2⟩ := h
    refine ⟨hv, e.trans h1, ?_⟩
    rcases h2 with h2 | ⟨r, cap, vs, t, q, h4, h5⟩
    · exact .inl h2
    · exact .inr ⟨r, cap, vs, t, q, hown r h4, h5⟩
  | map m => obtain ⟨r, ents, clock, h1, h2, h3, h4⟩ := h; exact ⟨r, ents, clock, e.trans h1, hown r h2, h3, h4⟩
  | iter s pos => obtain ⟨r, h1, h2, h3, h4⟩ := h; exact ⟨r, e.trans h1, hown r h2, h3, h4⟩
  | loop site t pd => obtain ⟨r, rec, h1, h2, h3, q1, q2, q3, h4, h5⟩ := h; exact ⟨r, rec, e.trans h1, hown r h2, h3, q1, q2, q3, (repL_ren hσ t rec.tmps.toList ho).2 h4, h5⟩
theorem renO_dead {σ : Nat → Nat} {o : AObj} (h : renO σ o = .dead) : o = .dead := by cases o <;> simp [renO] at h ⊢
/-- Only the first n objects are told, by their new numbers. -/
def Loc.ren (ρ : Loc) (σ : Nat → Nat) (n : Nat) : Loc := ⟨fun i => if i < n then ρ (σ i) else none, fun r => match ρ.own r with | some id => (List.range n).find? fun j => σ j == id | none => none⟩
theorem Loc.ren_at {ρ : Loc} {σ : Nat → Nat} {n i : Nat} (h : i < n) : ρ (σ i) = (ρ.ren σ n) i := by simp [Loc.ren, h]
theorem Loc.ren_own {ρ : Loc} {σ : Nat → Nat} {n : Nat} (hinj : ∀ i j, i < n → j < n → σ i = σ j → i = j) {r k : Nat} (hk : k < n) (h : ρ.own r = some (σ k)) : (ρ.ren σ n).own r = some k := by
  simp only [Loc.ren, h]
  cases hf : (List.range n).find? fun j => σ j == σ k with
  | none =>
    have := List.find?_eq_none.1 hf k (List.mem_range.2 hk)
    simp at this
  | some j =>
    have h1 := List.find?_some hf
    have h2 := List.mem_of_find?_eq_some hf
    simp only [beq_iff_eq] at h1
    rw [hinj j k (List.mem_range.1 h2) hk h1]
theorem Loc.own_ren {ρ : Loc} {σ : Nat → Nat} {n r k : Nat} (h : (ρ.ren σ n).own r = some k) : k < n ∧ ρ.own r = some (σ k) := by
  simp only [Loc.ren] at h
  split at h
  · rename_i id hid
    have h1 := List.find?_some h
    have h2 := List.mem_of_find?_eq_some h
    simp only [beq_iff_eq] at h1
    exact ⟨List.mem_range.1 h2, by rw [hid, h1]⟩
  · cases h
/-- A renaming of n objects that leaves the first k where they are. -/
def okSg (k n : Nat) (σ : List Nat) : Bool := decide (((List.range n).map (sgm σ)).Nodup) && (List.range k).all fun j => sgm σ j == j
theorem okSg_inj {k n : Nat} {σ : List Nat} (h : okSg k n σ = true) : (∀ i j, i < n → j < n → sgm σ i = sgm σ j → i = j) ∧ ∀ j, j < k → sgm σ j = j := by
  simp only [okSg, Bool.and_eq_true, decide_eq_true_eq, List.all_eq_true, List.mem_range, beq_iff_eq] at h
  refine ⟨fun i j hi hj e => ?_, h.2⟩
  have hl : ((List.range n).map (sgm σ)).length = n := by simp
  have h1 : ((List.range n).map (sgm σ))[i]'(by rw [hl]; exact hi) = ((List.range n).map (sgm σ))[j]'(by rw [hl]; exact hj) := by simpa using e
  exact (List.getElem_inj h.1).1 h1
theorem likeT_len : ∀ (p s : List AV), ∀ {σ : Nat → Nat}, likeT p s = renT σ p → p.length = s.length
  | [], s, σ, h => by cases s <;> simp [likeT, renT] at h ⊢
  | p :: ps, [], σ, h => by simp [likeT, renT] at h
  | p :: ps, x :: xs, σ, h => by simp only [likeT, renT, List.cons.injEq] at h; simp [likeT_len ps xs h.2]
theorem likeT_at : ∀ (p s : List AV) {σ : Nat → Nat}, likeT p s = renT σ p → ∀ i, p.getD i .unk = .unk ∨ s.getD i .unk = ren σ (p.getD i .unk)
  | [], s, σ, h, i => .inl (by simp)
  | p :: ps, [], σ, h, i => by simp [likeT, renT] at h
  | p :: ps, x :: xs, σ, h, i => by
    simp only [likeT, renT, List.cons.injEq] at h
    cases i with
    | zero =>
      have h1 := h.1
      cases p <;> simp only at h1 <;> first | exact .inl rfl | exact .inr h1
    | succ i => exact likeT_at ps xs h.2 i
theorem pullH_at {σ : List Nat} {h : List AObj} : ∀ (p : List AObj) (k : Nat), pullH σ h k p = p.map (renO (sgm σ)) → ∀ i, i < p.length → hget p i = .dead ∨ hget h (sgm σ (k + i)) = renO (sgm σ) (hget p i)
  | [], k, _, i, hi => by simp at hi
  | o :: os, k, hp, i, hi => by
    simp only [pullH, List.map_cons, List.cons.injEq] at hp
    cases i with
    | zero =>
      have h1 := hp.1
      simp only [hget, List.getD_cons_zero, Nat.add_zero]
      cases o <;> first | exact .inl rfl | exact .inr h1
    | succ i =>
      have := pullH_at os (k + 1) hp.2 i (by simpa using hi)
      rw [show k + (i + 1) = k + 1 + i from by omega]
      simpa [hget] using this
theorem repS_ren {ρ ρ' : Loc} {M : Mem} {σ : Nat → Nat} {n : Nat} (hσ : ∀ k, k < n → ρ (σ k) = ρ' k) {x : AV} {v : Value} (hl : x.lt n = true) (h : repS ρ M noG (ren σ x) v) : repS ρ' M noG x v := by
  have h' : rep ρ M noG (ren σ x) v := by
    cases x <;> simp [AV.lt] at hl <;> exact h
  have := (rep_ren (G' := noG) hσ x v hl).1 h'
  cases x <;> simp [AV.lt] at hl <;> exact this
theorem hget_lt {h : List AObj} {i : Nat} (hd : hget h i ≠ .dead) : i < h.length := by
  rcases Nat.lt_or_ge i h.length with hl | hl
  · exact hl
  · exact absurd (by simp [hget, List.getD_eq_getElem?_getD, List.getElem?_eq_none hl]) hd
/-- Less may be told, by other numbers. -/
theorem Sim.fits {B : Nat → Prop} {w0 w : World} {M0 M : Mem} {ρ : Loc} {a : Act} {s p : St} {σ : List Nat} {k : Nat} (H : Sim D B w0 M0 s a w ρ M) (hp : pull σ p s = push σ p) (hw : p.wf = true) (hs : okSg k p.h.length σ = true) : Sim D B w0 M0 p a w (ρ.ren (sgm σ) p.h.length) M := by
  have ht : likeT p.t s.t = renT (sgm σ) p.t := congrArg St.t hp
  have hh : pullH σ s.h 0 p.h = p.h.map (renO (sgm σ)) := congrArg St.h hp
  obtain ⟨hinj, _⟩ := okSg_inj hs
  simp only [St.wf, Bool.and_eq_true] at hw
  have hσ : ∀ i, i < p.h.length → ρ (sgm σ i) = (ρ.ren (sgm σ) p.h.length) i := fun i hi => Loc.ren_at hi
  refine ⟨⟨fun id => ?_, fun id hid => by simp [Loc.ren, Nat.not_lt.2 hid], fun r id hr => H.h.own r _ (Loc.own_ren hr).2, H.h.mem, H.h.old, H.h.below, H.h.size, H.h.good⟩, ⟨(likeT_len _ _ ht).trans H.t.len, H.t.defers, fun i => ?_⟩⟩
  · by_cases hdead : hget p.h id = .dead
    · rw [hdead]; trivial
    · have hid := hget_lt hdead
      rcases pullH_at _ 0 hh id hid with hd | he
      · exact absurd hd hdead
      · rw [Nat.zero_add] at he
        have hobj := H.h.obj (sgm σ id)
        rw [he] at hobj
        have hlt : (hget p.h id).lt p.h.length = true := by
          have := List.all_eq_true.1 hw.2 (hget p.h id)
          refine this ?_
          simp only [hget, List.getD_eq_getElem?_getD, List.getElem?_eq_getElem hid, Option.getD_some]
          exact List.getElem_mem hid
        exact hobj.unren hσ (fun r hr => Loc.ren_own hinj hid hr) hid hlt
  · rcases likeT_at _ _ ht i with hd | he
    · rw [hd]; simp [repS, rep]
    · have := H.t.at_ i
      rw [he] at this
      exact repS_ren hσ (ltL_getD hw.1 i) this
theorem kept.ren {k n : Nat} {σ : List Nat} (hk : k ≤ n) (hs : okSg k n σ = true) (ρ : Loc) : kept k ρ (ρ.ren (sgm σ) n) := fun id r hi e => by
  simp only [Loc.ren]
  rw [if_pos (by omega), (okSg_inj hs).2 id hi]
  exact e

/-! ### A tree as it is typed -/
inductive RT where
  | leaf (e : Exit) (p : St) (σ : List Nat)
  | ask (b : Bool) (t f : RT)
  | need (ps : List Prop) (t : RT)
  | fail
def RT.All (Q : Exit → St → Prop) : RT → Prop
  | .leaf e p _ => Q e p
  | .ask b t f => (b = true → t.All Q) ∧ (b = false → f.All Q)
  | .need ps t => (∀ q ∈ ps, q) ∧ t.All Q
  | .fail => False
def pushT : RT → Tree
  | .leaf e p σ => .leaf e (push σ p)
  | .ask b t f => .ask b (pushT t) (pushT f)
  | .need ps t => .need ps (pushT t)
  | .fail => .fail
/-- T with what R leaves out left out. -/
def pullT : RT → Tree → Tree
  | .fail, _ => .fail
  | .leaf _ p σ, .leaf e' s => .leaf e' (pull σ p s)
  | .ask _ t f, .ask b t' f' => .ask b (pullT t t') (pullT f f')
  | .need _ t, .need ps t' => .need ps (pullT t t')
  | R, .same _ _ _ t => pullT R t
  | _, _ => .fail
/-- What must be alike. -/
def sames : Tree → List (St × St)
  | .leaf _ _ => []
  | .ask _ t f => sames t ++ sames f
  | .need _ t => sames t
  | .same p σ s t => (pull σ p s, push σ p) :: sames t
  | .fail => []
/-- The same, only where R goes. -/
def samesR : RT → Tree → List (St × St)
  | .fail, _ => []
  | .ask _ t f, .ask _ t' f' => samesR t t' ++ samesR f f'
  | .need _ t, .need _ t' => samesR t t'
  | R, .same p σ s t => (pull σ p s, push σ p) :: samesR R t
  | _, _ => []
def RT.wf (k : Nat) : RT → Bool
  | .leaf _ p σ => p.wf && decide (k ≤ p.h.length) && okSg k p.h.length σ
  | .ask _ t f => t.wf k && f.wf k
  | .need _ t => t.wf k
  | .fail => true
theorem pull_all {k : Nat} {Q : Exit → St → Prop} : ∀ {R : RT} {T : Tree}, pullT R T = pushT R → R.wf k = true → (∀ o ∈ samesR R T, o.1 = o.2) → R.All Q → T.All (fun e s => ∃ p σ, pull σ p s = push σ p ∧ p.wf = true ∧ k ≤ p.h.length ∧ okSg k p.h.length σ = true ∧ Q e p)
  | .leaf e p σ, .leaf e' s, h, hw, _, hq => by
    simp only [pullT, pushT, Tree.leaf.injEq] at h
    rw [h.1]
    simp only [RT.wf, Bool.and_eq_true, decide_eq_true_eq] at hw
    exact ⟨p, σ, h.2, hw.1.1, hw.1.2, hw.2, hq⟩
  | .ask b t f, .ask b' t' f', h, hw, hs, hq => by
    simp only [pullT, pushT, Tree.ask.injEq] at h
    obtain ⟨rfl, h1, h2⟩ := h
    simp only [RT.wf, Bool.and_eq_true] at hw
    exact ⟨fun hb => pull_all h1 hw.1 (fun o hm => hs o (by simp only [samesR]; exact List.mem_append_left _ hm)) (hq.1 hb), fun hb => pull_all h2 hw.2 (fun o hm => hs o (by simp only [samesR]; exact List.mem_append_right _ hm)) (hq.2 hb)⟩
  | .need ps t, .need ps' t', h, hw, hs, hq => by
    simp only [pullT, pushT, Tree.need.injEq] at h
    obtain ⟨rfl, h1⟩ := h
    exact ⟨hq.1, pull_all h1 hw hs hq.2⟩
  | R, .same p σ s t, h, hw, hs, hq => by
    have hne : R ≠ .fail := fun e => by subst e; exact hq.elim
    have h' : pullT R t = pushT R := by cases R <;> first | exact absurd rfl hne | simpa [pullT] using h
    have hs' : ∀ o ∈ (pull σ p s, push σ p) :: samesR R t, o.1 = o.2 := fun o ho => hs o (by cases R <;> first | exact absurd rfl hne | simpa [samesR] using ho)
    exact ⟨hs' (pull σ p s, push σ p) List.mem_cons_self, pull_all h' hw (fun o hm => hs' o (List.mem_cons_of_mem _ hm)) hq⟩
  | .fail, _, _, _, _, hq => hq.elim
  | .leaf .., .ask .., h, _, _, _ | .leaf .., .need .., h, _, _, _ | .leaf .., .fail, h, _, _, _ => by simp [pullT, pushT] at h
  | .ask .., .leaf .., h, _, _, _ | .ask .., .need .., h, _, _, _ | .ask .., .fail, h, _, _, _ => by simp [pullT, pushT] at h
  | .need .., .leaf .., h, _, _, _ | .need .., .ask .., h, _, _, _ | .need .., .fail, h, _, _, _ => by simp [pullT, pushT] at h

theorem Tr.fits {P : Program} {k : Nat} {c : Code} {s p : St} {σ : List Nat} {Q : Exit → St → Prop} (h : Tr P k c p Q) (hp : pull σ p s = push σ p) (hw : p.wf = true) (hk : k ≤ p.h.length) (hs : okSg k p.h.length σ = true) : Tr P k c s Q := fun ro D B w0 M0 a w ρ M hro H =>
  wpIn_mono (h ro D B w0 M0 a w _ M hro (H.fits hp hw hs)) fun _ _ _ hp => hp.then (CtxLe.refl _ _ _ _) (kept.ren hk hs ρ) (Mem.le_refl _)
theorem Tr.less {P : Program} {k : Nat} {c : Code} {s : St} {Q : Exit → St → Prop} (h : Tr P k c s fun e s' => ∃ p σ, pull σ p s' = push σ p ∧ p.wf = true ∧ k ≤ p.h.length ∧ okSg k p.h.length σ = true ∧ Q e p) : Tr P k c s Q := fun ro D B w0 M0 a w ρ M hro H =>
  wpIn_mono (h ro D B w0 M0 a w ρ M hro H) fun _ _ _ ⟨_, ρ', M', D', B', w0', M0', hc, ⟨p, σ, h1, h2, h3, h4, h5⟩, l1, l, H'⟩ => ⟨p, _, M', D', B', w0', M0', hc, h5, l1.trans (kept.ren h3 h4 ρ'), l, H'.fits h1 h2 h4⟩
/-- Code without a loop of its own (or with loops that are told): by its tree. -/
theorem Tr_tree {E : Env} {L : Loops} (hK : KOk E) {k : Nat} (n bid : Nat) {c : Code} {s : St} {Q : Exit → St → Prop} (hL : LoopsOk E.P k L bid c) (R : RT) (h1 : pullT R (evCode E L n bid c s) = pushT R) (h2 : R.wf k = true)
    (h4 : (samesR R (evCode E L n bid c s)).map Prod.fst = (samesR R (evCode E L n bid c s)).map Prod.snd) (hq : R.All Q) : Tr E.P k c s Q :=
  Tr.less (evCode_sound hK n bid c s _ hL (pull_all h1 h2 (fun o ho => List.map_inj_left.1 h4 o ho) hq))
/-- A loop: an invariant that bears a number, which every round lowers. -/
theorem wpIn_loop_ghost {F : Fence} {m : Nat} {P : Program} {Q : Exit → Act → World → Prop} {a : Act} {w : World} {c : Code} (I : Nat → Act → World → Prop) (n₀ : Nat) (h₀ : I n₀ a w)
    (round : ∀ n a w, I n a w → c.wpIn F m P (Exit.then (fun a' w' => ∃ n', n' < n ∧ I n' a' w') Q) a w) : (Code.loop c).wpIn F m P Q a w := by
  refine wpIn_loop (fun a w => ∃ n, I n a w) (fun a w => leastOf (fun n => I n a w)) ⟨n₀, h₀⟩ ?_
  intro a w hI
  refine wpIn_mono (round _ a w (leastOf_spec hI).1) ?_
  intro e a' w' hq
  cases e with
  | normal =>
    obtain ⟨n', hlt, hI'⟩ := hq
    exact show (∃ n, I n a' w') ∧ leastOf (fun n => I n a' w') < leastOf (fun n => I n a w) from ⟨⟨n', hI'⟩, Nat.lt_of_le_of_lt ((leastOf_spec ⟨n', hI'⟩).2 n' hI') hlt⟩
  | exit id => exact hq
  | goto l => exact hq
  | ret => exact hq
  | panic ch => exact hq
  | outgrown => exact hq
/-- A loop: what holds at each round's head; a measure. -/
theorem Tr_loop {P : Program} {k : Nat} {ι : Type} (S : ι → St) (μ : ι → Nat) {c : Code} {Q : ι → Exit → St → Prop}
    (h : ∀ i, Tr P k c (S i) fun e s => match e with | .normal => ∃ j, μ j < μ i ∧ s = S j ∧ (∀ e s, Q j e s → Q i e s) | e => Q i e s) (i : ι) : Tr P k (.loop c) (S i) (Q i) := by
  intro ro D B w0 M0 a w ρ M hro H
  refine wpIn_loop_ghost (fun n a' w' => ∃ j, μ j = n ∧ (∀ e s, Q j e s → Q i e s) ∧ ∃ ρ' M' D' B' w0' M0', CtxLe D B w0 M0 D' B' w0' M0' ∧ kept k ρ ρ' ∧ M.le M' ∧ Sim D' B' w0' M0' (S j) a' w' ρ' M') (μ i) ⟨i, rfl, fun _ _ h => h, ρ, M, D, B, w0, M0, CtxLe.refl _ _ _ _, .refl _ _, Mem.le_refl _, H⟩ ?_
  rintro n a1 w1 ⟨j, rfl, hq, ρ1, M1, D1, B1, w01, M01, hc, k1, l1, H1⟩
  refine wpIn_mono (h j ro D1 B1 w01 M01 a1 w1 ρ1 M1 (hro.le hc) H1) ?_
  rintro e a2 w2 ⟨s2, ρ2, M2, D2, B2, w02, M02, hc2, hh, k2, l2, H2⟩
  cases e with
  | normal =>
    obtain ⟨j2, hlt, rfl, hqk⟩ := hh
    exact ⟨μ j2, hlt, j2, rfl, fun e s h => hq _ _ (hqk e s h), ρ2, M2, D2, B2, w02, M02, hc.trans hc2, k1.trans k2, Mem.le_trans l1 l2, H2⟩
  | _ => exact ⟨s2, ρ2, M2, D2, B2, w02, M02, hc.trans hc2, hq _ _ hh, k1.trans k2, Mem.le_trans l1 l2, H2⟩

/-- The loops in a piece of code, by the numbers of the blocks around. -/
def loopsIn : Nat → Code → List (Nat × Code)
  | bid, .loop c => [(bid, .loop c)]
  | bid, .rangeFunc f ps x y => [(bid, .rangeFunc f ps x y)]
  | bid, .seq x y => loopsIn bid x ++ loopsIn bid y
  | bid, .cond _ x y => loopsIn bid x ++ loopsIn bid y
  | _, .block id x => loopsIn id x
  | bid, .scope x => loopsIn bid x
  | _, _ => []
theorem LoopsOk.of {P : Program} {k : Nat} {L : Loops} : ∀ {c : Code} {bid : Nat}, (∀ q ∈ loopsIn bid c, ∀ s p σ T, L q.1 s = some (p, σ, T) → ∀ Q, T.All Q → ∀ s', pull σ p s' = push σ p → Tr P k q.2 s' Q) → LoopsOk P k L bid c
  | .loop c, bid, h => h (bid, .loop c) (List.mem_singleton_self _)
  | .rangeFunc f ps x y, bid, h => h (bid, .rangeFunc f ps x y) (List.mem_singleton_self _)
  | .seq _ _, _, h => ⟨LoopsOk.of fun p hp => h p (List.mem_append_left _ hp), LoopsOk.of fun p hp => h p (List.mem_append_right _ hp)⟩
  | .cond _ _ _, _, h => ⟨LoopsOk.of fun p hp => h p (List.mem_append_left _ hp), LoopsOk.of fun p hp => h p (List.mem_append_right _ hp)⟩
  | .block id x, _, h => LoopsOk.of (c := x) (bid := id) h
  | .scope x, bid, h => LoopsOk.of (c := x) (bid := bid) h
  | .skip, _, _ | .region .., _, _ | .exit _, _, _ | .label _, _, _ | .goto _, _, _ | .ret, _, _ | .refuse _, _, _ => trivial
/-- No loop is told. -/
def noLoops : Loops := fun _ _ => none
theorem LoopsOk.none {P : Program} {k : Nat} {c : Code} {bid : Nat} : LoopsOk P k noLoops bid c := LoopsOk.of fun _ _ _ _ _ _ h => by cases h
def bodyOf (f : Func) : Code := f.body.getD .skip
/-- The body of a loop; a range over a function itself. -/
def loopBody : Code → Code
  | .loop c => c
  | c => c
def loopAt (f : Func) (k : Nat) : Code := ((loopsIn 9999 (bodyOf f))[k]?.map fun p => loopBody p.2).getD .skip
/-- Slots by their numbers. -/
def slots (n : Nat) (l : List (Nat × AV)) : List AV := (List.range n).map fun i => (l.lookup i).getD .unk
/-- A loop, by its tree T from each state, and the tree R of a round. -/
theorem Tr_loopT {E : Env} (hK : KOk E) {k : Nat} (n bid : Nat) {c : Code} {ι : Type} (L : ι → Loops) (S : ι → St) (T : ι → Tree) (R : ι → RT) (μ : ι → Nat) (hL : ∀ i, LoopsOk E.P k (L i) bid c)
    (h1 : ∀ i, pullT (R i) (evCode E (L i) n bid c (S i)) = pushT (R i)) (h2 : ∀ i, (R i).wf k = true)
    (h4 : ∀ i, (samesR (R i) (evCode E (L i) n bid c (S i))).map Prod.fst = (samesR (R i) (evCode E (L i) n bid c (S i))).map Prod.snd)
    (step : ∀ i Q, (T i).All Q → (R i).All fun e s => match e with | .normal => ∃ j, μ j < μ i ∧ s = S j ∧ (T j).All Q | e => Q e s) (i : ι) (Q : Exit → St → Prop) (hq : (T i).All Q) : Tr E.P k (.loop c) (S i) Q := by
  refine Tr_loop (ι := { j : ι // (T j).All Q }) (fun j => S j.1) (fun j => μ j.1) (Q := fun _ => Q) (fun j => ?_) ⟨i, hq⟩
  refine (Tr_tree hK n bid (hL j.1) (R j.1) (h1 j.1) (h2 j.1) (h4 j.1) (step j.1 Q j.2)).mono fun e s h => ?_
  cases e with
  | normal => obtain ⟨j2, a, b, c⟩ := h; exact ⟨⟨j2, c⟩, a, b, fun _ _ h => h⟩
  | _ => exact h
/-- What is told of loops, by the numbers of their blocks. -/
def loopsOf (l : List (Nat × St × List Nat × Tree)) : Loops := fun bid _ => l.lookup bid
theorem LoopsOk.all {P : Program} {k : Nat} {L : Loops} {c : Code} {bid : Nat} {l : List (Nat × Code)} (h : loopsIn bid c = l)
    (hl : ∀ q ∈ l, ∀ s p σ T, L q.1 s = some (p, σ, T) → p.wf = true ∧ k ≤ p.h.length ∧ okSg k p.h.length σ = true ∧ ∀ Q, T.All Q → Tr P k q.2 p Q) : LoopsOk P k L bid c :=
  LoopsOk.of fun q hq s p σ T hs Q hQ _ hlk => by
    obtain ⟨a, b, c, d⟩ := hl q (h ▸ hq) s p σ T hs
    exact (d Q hQ).fits hlk a b c
theorem LoopsOk.one {P : Program} {k b : Nat} {c g : Code} {bid : Nat} {p : St} {σ : List Nat} {T : Tree} (h : loopsIn bid c = [(b, .loop g)]) (hw : p.wf = true) (hk : Nat.ble k p.h.length = true) (hs : okSg k p.h.length σ = true) (ht : ∀ Q, T.All Q → Tr P k (.loop g) p Q) :
    LoopsOk P k (loopsOf [(b, p, σ, T)]) bid c := LoopsOk.all h fun q hq s p' σ' T' hl => by
  simp only [List.mem_singleton] at hq
  subst hq
  simp only [loopsOf, List.lookup, beq_self_eq_true, Option.some.injEq, Prod.mk.injEq] at hl
  obtain ⟨rfl, rfl, rfl⟩ := hl
  exact ⟨hw, Nat.le_of_ble_eq_true hk, hs, ht⟩
theorem LoopsOk.two {P : Program} {k b b2 : Nat} {c g g2 : Code} {bid : Nat} {p p2 : St} {σ σ2 : List Nat} {T T2 : Tree} (h : loopsIn bid c = [(b, .loop g), (b2, .loop g2)]) (hne : (b2 == b) = false) (hw : p.wf = true) (hk : Nat.ble k p.h.length = true) (hs : okSg k p.h.length σ = true) (ht : ∀ Q, T.All Q → Tr P k (.loop g) p Q)
    (hw2 : p2.wf = true) (hk2 : Nat.ble k p2.h.length = true) (hs2 : okSg k p2.h.length σ2 = true) (ht2 : ∀ Q, T2.All Q → Tr P k (.loop g2) p2 Q) :
    LoopsOk P k (loopsOf [(b, p, σ, T), (b2, p2, σ2, T2)]) bid c := LoopsOk.all h fun q hq s p' σ' T' hl => by
  simp only [List.mem_cons, List.not_mem_nil, or_false] at hq
  rcases hq with rfl | rfl
  · simp only [loopsOf, List.lookup, beq_self_eq_true, Option.some.injEq, Prod.mk.injEq] at hl
    obtain ⟨rfl, rfl, rfl⟩ := hl
    exact ⟨hw, Nat.le_of_ble_eq_true hk, hs, ht⟩
  · simp only [loopsOf, List.lookup, hne, beq_self_eq_true, Option.some.injEq, Prod.mk.injEq] at hl
    obtain ⟨rfl, rfl, rfl⟩ := hl
    exact ⟨hw2, Nat.le_of_ble_eq_true hk2, hs2, ht2⟩
/-- A range over a function that is told. -/
theorem LoopsOk.oneR {P : Program} {k b : Nat} {c g : Code} {bid : Nat} {p : St} {σ : List Nat} {T : Tree} (h : loopsIn bid c = [(b, g)]) (hw : p.wf = true) (hk : Nat.ble k p.h.length = true) (hs : okSg k p.h.length σ = true) (ht : ∀ Q, T.All Q → Tr P k g p Q) :
    LoopsOk P k (loopsOf [(b, p, σ, T)]) bid c := LoopsOk.all h fun q hq s p' σ' T' hl => by
  simp only [List.mem_singleton] at hq
  subst hq
  simp only [loopsOf, List.lookup, beq_self_eq_true, Option.some.injEq, Prod.mk.injEq] at hl
  obtain ⟨rfl, rfl, rfl⟩ := hl
  exact ⟨hw, Nat.le_of_ble_eq_true hk, hs, ht⟩
end Go.Eng
