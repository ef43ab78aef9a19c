/- The engine, part 11: less is told of a state; trees that are typed; loops. -/
import Derived.Test.YtofimhodpemmiaaEng10
import Derived.Deep.LoopGhost
namespace Go.Eng
open Go.RowKit (Below)
variable {D : List Deferred}

mutual
/-- It speaks of objects below n alone. -/
def AV.lt (n : Nat) : AV → Bool
  | .ptr id _ => decide (id < n)
  | .vec id => decide (id < n)
  | .map id => decide (id < n)
  | .agg cs => ltL n cs
  | .tup cs => ltL n cs
  | .fn _ cs => ltL n cs
  | .iface _ x => x.lt n
  | .grd .. => false
  | _ => true
def ltL (n : Nat) : List AV → Bool
  | [] => true
  | x :: xs => x.lt n && ltL n xs
end
def Loc.cut (ρ : Loc) (n : Nat) : Loc := fun i => if i < n then ρ i else none
mutual
theorem rep_cut {ρ : Loc} {M : Mem} {G : Nat → Bool → Prop} {n : Nat} : ∀ (x : AV) (v : Value), x.lt n = true → rep ρ M G x v → rep (ρ.cut n) M G x v
  | .unk, _, _, _ => by simp [rep]
  | .int _ _, _, _, h => by simpa [rep] using h
  | .bool _, _, _, h => by simpa [rep] using h
  | .str _, _, _, h => by simpa [rep] using h
  | .nilp, _, _, h => by simpa [rep] using h
  | .ptr id _, v, hc, h => by simp only [rep, AV.lt, decide_eq_true_eq] at h hc ⊢; simpa [Loc.cut, hc] using h
  | .ep _ _ _, _, _, h => by simp only [rep] at h ⊢; exact h
  | .agg cs, v, hc, h => by simp only [rep, AV.lt] at h hc ⊢; obtain ⟨vs, h1, h2⟩ := h; exact ⟨vs, h1, repL_cut cs vs hc h2⟩
  | .tup cs, v, hc, h => by simp only [rep, AV.lt] at h hc ⊢; obtain ⟨vs, h1, h2⟩ := h; exact ⟨vs, h1, repL_cut cs vs hc h2⟩
  | .nils, _, _, h => by simpa [rep] using h
  | .vec id, v, hc, h => by simp only [rep, AV.lt, decide_eq_true_eq] at h hc ⊢; simpa [Loc.cut, hc] using h
  | .coll _, _, _, h => by simp only [rep] at h ⊢; exact h
  | .fn f cs, v, hc, h => by simp only [rep, AV.lt] at h hc ⊢; obtain ⟨vs, h1, h2⟩ := h; exact ⟨vs, h1, repL_cut cs vs hc h2⟩
  | .nilf, _, _, h => by simpa [rep] using h
  | .map id, v, hc, h => by simp only [rep, AV.lt, decide_eq_true_eq] at h hc ⊢; simpa [Loc.cut, hc] using h
  | .nilm, _, _, h => by simpa [rep] using h
  | .nili, _, _, h => by simpa [rep] using h
  | .iface t x, v, hc, h => by simp only [rep, AV.lt] at h hc ⊢; obtain ⟨u, h1, h2⟩ := h; exact ⟨u, h1, rep_cut x u hc h2⟩
  | .grd _ _ _, _, hc, _ => by simp [AV.lt] at hc
theorem repL_cut {ρ : Loc} {M : Mem} {G : Nat → Bool → Prop} {n : Nat} : ∀ (xs : List AV) (vs : List Value), ltL n xs = true → repL ρ M G xs vs → repL (ρ.cut n) M G xs vs
  | [], [], _, _ => by simp [repL]
  | x :: xs, v :: vs, hc, h => by simp only [repL, ltL, Bool.and_eq_true] at h hc ⊢; exact ⟨rep_cut x v hc.1 h.1, repL_cut xs vs hc.2 h.2⟩
  | [], _ :: _, _, h => by simp [repL] at h
  | _ :: _, [], _, h => by simp [repL] at h
end
def AObj.lt (n : Nat) : AObj → Bool
  | .dead => true
  | .cells _ cs => ltL n cs
  | .vec _ => true
  | .map es => es.all fun e => e.1.lt n && e.2.lt n
def St.wf (s : St) : Bool := ltL s.h.length s.t && s.h.all (AObj.lt s.h.length)

theorem likeT_len : ∀ (p s : List AV), likeT p s = p → p.length = s.length
  | [], s, h => by cases s <;> simp [likeT] at h ⊢
  | p :: ps, [], h => by simp [likeT] at h
  | p :: ps, x :: xs, h => by simp only [likeT, List.cons.injEq] at h; simp [likeT_len ps xs h.2]
theorem likeT_at : ∀ (p s : List AV), likeT p s = p → ∀ i, p.getD i .unk = .unk ∨ p.getD i .unk = s.getD i .unk
  | [], s, h, i => by cases s <;> simp [likeT] at h ⊢
  | p :: ps, [], h, i => by simp [likeT] at h
  | p :: ps, x :: xs, h, i => by
    simp only [likeT, List.cons.injEq] at h
    cases i with
    | zero =>
      have h1 := h.1
      cases p <;> simp only at h1 <;> simp [h1]
    | succ i => simpa using likeT_at ps xs h.2 i
theorem likeH_at : ∀ (p s : List AObj), likeH p s = p → ∀ i, hget p i = .dead ∨ hget p i = hget s i
  | [], s, _, i => by simp [hget]
  | p :: ps, [], h, i => by simp [likeH] at h
  | p :: ps, x :: xs, h, i => by
    simp only [likeH, List.cons.injEq] at h
    cases i with
    | zero =>
      have h1 := h.1
      cases p <;> simp only at h1 <;> simp [hget, h1]
    | succ i => simpa [hget] using likeH_at ps xs h.2 i
theorem ltL_getD {n : Nat} : ∀ {l : List AV}, ltL n l = true → ∀ i, (l.getD i .unk).lt n = true
  | [], _, i => by simp [AV.lt]
  | x :: xs, h, 0 => by simp only [ltL, Bool.and_eq_true] at h; simpa using h.1
  | x :: xs, h, i + 1 => by simp only [ltL, Bool.and_eq_true] at h; simpa using ltL_getD h.2 i
theorem repS_cut {ρ : Loc} {M : Mem} {n : Nat} {x : AV} {v : Value} (hx : x.lt n = true) (h : repS ρ M noG x v) : repS (ρ.cut n) M noG x v := by
  cases x
  case grd => simp [AV.lt] at hx
  all_goals exact rep_cut _ _ hx h
theorem repEs_cut {ρ : Loc} {M : Mem} {n : Nat} : ∀ (xs : List (AV × AV)) (es : List MapEntry), (xs.all fun e => e.1.lt n && e.2.lt n) = true → repEs ρ M xs es → repEs (ρ.cut n) M xs es
  | [], [], _, _ => by simp [repEs]
  | x :: xs, e :: es, hc, h => by
    simp only [List.all_cons, Bool.and_eq_true] at hc
    simp only [repEs] at h ⊢
    exact ⟨rep_cut _ _ hc.1.1 h.1, rep_cut _ _ hc.1.2 h.2.1, repEs_cut xs es (by simpa using hc.2) h.2.2⟩
  | [], _ :: _, _, h => by simp [repEs] at h
  | _ :: _, [], _, h => by simp [repEs] at h

/-- Less may be told. -/
theorem Sim.like {B : Nat → Prop} {w0 w : World} {M0 M : Mem} {ρ : Loc} {a : Act} {s p : St} (H : Sim D B w0 M0 s a w ρ M) (hp : like p s = p) (hw : p.wf = true) : Sim D B w0 M0 p a w (ρ.cut p.h.length) M := by
  have ht : likeT p.t s.t = p.t := congrArg St.t hp
  have hh : likeH p.h s.h = p.h := congrArg St.h hp
  simp only [St.wf, Bool.and_eq_true] at hw
  refine ⟨⟨fun id => ?_, fun id hid => by simp [Loc.cut, Nat.not_lt.2 hid], fun i j r hi hj h1 h2 => ?_, H.h.mem, H.h.old, H.h.below, H.h.size⟩, ⟨(likeT_len _ _ ht).trans H.t.len, H.t.defers, fun i => ?_⟩⟩
  · rcases likeH_at _ _ hh id with hd | he
    · rw [hd]; trivial
    · by_cases hdead : hget p.h id = .dead
      · rw [hdead]; trivial
      · have hid : id < p.h.length := by
          rcases Nat.lt_or_ge id p.h.length with h | h
          · exact h
          · exact absurd (by simp [hget, List.getD_eq_getElem?_getD, List.getElem?_eq_none h]) hdead
        have hobj := H.h.obj id
        rw [← he] at hobj
        have hlt : (hget p.h id).lt p.h.length = true := by
          have := List.all_eq_true.1 hw.2 (hget p.h id)
          refine this ?_
          simp only [hget, List.getD_eq_getElem?_getD, List.getElem?_eq_getElem hid, Option.getD_some]
          exact List.getElem_mem hid
        have hc : (ρ.cut p.h.length) id = ρ id := by simp [Loc.cut, hid]
        generalize hget p.h id = o at hobj hlt ⊢
        cases o with
        | dead => trivial
        | cells t cs => obtain ⟨r, vs, h1, h2, h3, h4, h5⟩ := hobj; exact ⟨r, vs, hc.trans h1, h2, repL_cut cs vs hlt h3, h4, h5⟩
        | vec c => obtain ⟨hv, h1, h2⟩ := hobj; exact ⟨hv, hc.trans h1, h2⟩
        | map es => obtain ⟨r, ents, clock, h1, h2, h3, h4⟩ := hobj; exact ⟨r, ents, clock, hc.trans h1, h2, h3, repEs_cut _ _ hlt h4⟩
  · have key : ∀ k q, hget p.h k ≠ .dead → own ((ρ.cut p.h.length) k) = some q → hget s.h k ≠ .dead ∧ own (ρ k) = some q := by
      intro k q hk hq
      refine ⟨fun hs => ?_, ?_⟩
      · rcases likeH_at _ _ hh k with hd | he
        · exact hk hd
        · exact hk (he.trans hs)
      · unfold Loc.cut at hq
        split at hq
        · exact hq
        · cases hq
    obtain ⟨a1, a2⟩ := key i r hi h1
    obtain ⟨b1, b2⟩ := key j r hj h2
    exact H.h.inj i j r a1 b1 a2 b2
  · have hlt := ltL_getD hw.1 i
    rcases likeT_at _ _ ht i with hd | he
    · rw [hd]; simp [repS, rep]
    · have := H.t.at_ i
      rw [← he] at this
      exact repS_cut hlt this
theorem Loc.cut_le (ρ : Loc) (n : Nat) : (ρ.cut n).le ρ := fun i r h => by
  unfold Loc.cut at h
  split at h
  · exact h
  · cases h

theorem kept.cut {k n : Nat} (h : k ≤ n) (ρ : Loc) : kept k ρ (ρ.cut n) := fun id r hi e => by
  unfold Loc.cut
  rw [if_pos (by omega)]
  exact e

/-! ### A tree as it is typed -/
/-- T with what R leaves out left out. -/
def trim : Tree → Tree → Tree
  | .leaf _ p, .leaf e' s => .leaf e' (like p s)
  | .ask _ t f, .ask b t' f' => .ask b (trim t t') (trim f f')
  | R, .need _ t => trim R t
  | R, .same _ _ t => trim R t
  | _, _ => .fail
/-- What must hold, and on which way. -/
def obl : Tree → List (List (Bool × Bool) × Prop)
  | .leaf _ _ => []
  | .ask b t f => (obl t).map (fun o => ((b, true) :: o.1, o.2)) ++ (obl f).map (fun o => ((b, false) :: o.1, o.2))
  | .need ps t => ps.map (fun p => ([], p)) ++ obl t
  | .same _ _ t => obl t
  | .fail => []
/-- What must be alike. -/
def sames : Tree → List (St × St)
  | .leaf _ _ => []
  | .ask _ t f => sames t ++ sames f
  | .need _ t => sames t
  | .same p s t => (like p s, p) :: sames t
  | .fail => []
def Tree.wf (k : Nat) : Tree → Bool
  | .leaf _ s => s.wf && decide (k ≤ s.h.length)
  | .ask _ t f => t.wf k && f.wf k
  | .need _ t => t.wf k
  | .same _ _ t => t.wf k
  | .fail => true
def onWay : List (Bool × Bool) → Prop
  | [] => True
  | (b, x) :: r => b = x ∧ onWay r
theorem trim_all {k : Nat} {Q : Exit → St → Prop} : ∀ {R T : Tree}, trim R T = R → R.wf k = true → (∀ o ∈ obl T, onWay o.1 → o.2) → (∀ o ∈ sames T, o.1 = o.2) → R.All Q → T.All (fun e s => ∃ p, like p s = p ∧ p.wf = true ∧ k ≤ p.h.length ∧ Q e p)
  | .leaf e p, .leaf e' s, h, hw, _, _, hq => by
    simp only [trim, Tree.leaf.injEq] at h
    rw [h.1]
    simp only [Tree.wf, Bool.and_eq_true, decide_eq_true_eq] at hw
    exact ⟨p, h.2, hw.1, hw.2, hq⟩
  | .ask b t f, .ask b' t' f', h, hw, ho, hs, hq => by
    simp only [trim, Tree.ask.injEq] at h
    obtain ⟨rfl, h1, h2⟩ := h
    simp only [Tree.wf, Bool.and_eq_true] at hw
    refine ⟨fun hb => trim_all h1 hw.1 (fun o hm hon => ?_) (fun o hm => hs o (by simp only [sames]; exact List.mem_append_left _ hm)) (hq.1 hb), fun hb => trim_all h2 hw.2 (fun o hm hon => ?_) (fun o hm => hs o (by simp only [sames]; exact List.mem_append_right _ hm)) (hq.2 hb)⟩
    · exact ho ((b', true) :: o.1, o.2) (by simp only [obl]; exact List.mem_append_left _ (List.mem_map.2 ⟨o, hm, rfl⟩)) ⟨hb, hon⟩
    · exact ho ((b', false) :: o.1, o.2) (by simp only [obl]; exact List.mem_append_right _ (List.mem_map.2 ⟨o, hm, rfl⟩)) ⟨hb, hon⟩
  | R, .need ps t, h, hw, ho, hs, hq => by
    have h' : trim R t = R := by cases R <;> simpa [trim] using h
    refine ⟨fun p hp => ho ([], p) (by simp only [obl]; exact List.mem_append_left _ (List.mem_map.2 ⟨p, hp, rfl⟩)) trivial, ?_⟩
    exact trim_all h' hw (fun o hm => ho o (by simp only [obl]; exact List.mem_append_right _ hm)) hs hq
  | R, .same p s t, h, hw, ho, hs, hq => by
    have h' : trim R t = R := by cases R <;> simpa [trim] using h
    exact ⟨hs (Go.Eng.like p s, p) (by simp only [sames]; exact List.mem_cons_self), trim_all h' hw (fun o hm => ho o (by simp only [obl]; exact hm)) (fun o hm => hs o (by simp only [sames]; exact List.mem_cons_of_mem _ hm)) hq⟩
  | .fail, .leaf _ _, _, _, _, _, hq | .fail, .ask .., _, _, _, _, hq | .fail, .fail, _, _, _, _, hq => hq.elim
  | .leaf _ _, .ask .., h, _, _, _, _ => by simp [trim] at h
  | .ask .., .leaf _ _, h, _, _, _, _ => by simp [trim] at h
  | .leaf _ _, .fail, h, _, _, _, _ => by simp [trim] at h
  | .ask .., .fail, h, _, _, _, _ => by simp [trim] at h
  | .need .., .leaf _ _, h, _, _, _, _ => by simp [trim] at h
  | .need .., .ask .., h, _, _, _, _ => by simp [trim] at h
  | .need .., .fail, h, _, _, _, _ => by simp [trim] at h
  | .same .., .leaf _ _, h, _, _, _, _ => by simp [trim] at h
  | .same .., .ask .., h, _, _, _, _ => by simp [trim] at h
  | .same .., .fail, h, _, _, _, _ => by simp [trim] at h

theorem Tr.like {P : Program} {k : Nat} {c : Code} {s p : St} {Q : Exit → St → Prop} (h : Tr P k c p Q) (hp : like p s = p) (hw : p.wf = true) (hk : k ≤ p.h.length) : Tr P k c s Q := fun D B w0 M0 a w ρ M H =>
  wp_mono (h D B w0 M0 a w _ M (H.like hp hw)) fun _ _ _ ⟨s', ρ', M', h1, h2, h3⟩ => ⟨s', ρ', M', h1, (kept.cut hk ρ).trans h2, h3⟩
theorem Tr.less {P : Program} {k : Nat} {c : Code} {s : St} {Q : Exit → St → Prop} (h : Tr P k c s fun e s' => ∃ p, Go.Eng.like p s' = p ∧ p.wf = true ∧ k ≤ p.h.length ∧ Q e p) : Tr P k c s Q := fun D B w0 M0 a w ρ M H =>
  wp_mono (h D B w0 M0 a w ρ M H) fun _ _ _ ⟨_, ρ', M', ⟨p, h1, h2, h3, h4⟩, l1, l, H'⟩ => ⟨p, _, M', h4, l1.trans (kept.cut h3 ρ'), l, H'.like h1 h2⟩
/-- Code without a loop of its own (or with loops that are told): by its tree. -/
theorem Tr_tree {E : Env} {L : Loops} (hK : KOk E) {k : Nat} (n bid : Nat) {c : Code} {s : St} {Q : Exit → St → Prop} (hL : LoopsOk E.P k L bid c) (R : Tree) (h1 : trim R (evCode E L n bid c s) = R) (h2 : R.wf k = true)
    (h3 : ∀ o ∈ obl (evCode E L n bid c s), onWay o.1 → o.2) (h4 : (sames (evCode E L n bid c s)).map Prod.fst = (sames (evCode E L n bid c s)).map Prod.snd) (hq : R.All Q) : Tr E.P k c s Q :=
  Tr.less (evCode_sound hK n bid c s _ hL (trim_all h1 h2 h3 (fun o ho => List.map_inj_left.1 h4 o ho) hq))
/-- A loop: what holds at each round's head; a measure. -/
theorem Tr_loop {P : Program} {k : Nat} {ι : Type} (S : ι → St) (μ : ι → Nat) {c : Code} {Q : ι → Exit → St → Prop}
    (h : ∀ i, Tr P k c (S i) fun e s => match e with | .normal => ∃ j, μ j < μ i ∧ s = S j ∧ (∀ e s, Q j e s → Q i e s) | e => Q i e s) (i : ι) : Tr P k (.loop c) (S i) (Q i) := by
  intro D B w0 M0 a w ρ M H
  refine wp_loop_ghost (fun n a' w' => ∃ j, μ j = n ∧ (∀ e s, Q j e s → Q i e s) ∧ ∃ ρ' M', kept k ρ ρ' ∧ M.le M' ∧ Sim D B w0 M0 (S j) a' w' ρ' M') (μ i) ⟨i, rfl, fun _ _ h => h, ρ, M, .refl _ _, Mem.le_refl _, H⟩ ?_
  rintro n a1 w1 ⟨j, rfl, hq, ρ1, M1, k1, l1, H1⟩
  refine wp_mono (h j D B w0 M0 a1 w1 ρ1 M1 H1) ?_
  rintro e a2 w2 ⟨s2, ρ2, M2, hh, k2, l2, H2⟩
  cases e with
  | normal =>
    obtain ⟨j2, hlt, rfl, hqk⟩ := hh
    exact ⟨μ j2, hlt, j2, rfl, fun e s h => hq _ _ (hqk e s h), ρ2, M2, k1.trans k2, Mem.le_trans l1 l2, H2⟩
  | _ => exact ⟨s2, ρ2, M2, hq _ _ hh, k1.trans k2, Mem.le_trans l1 l2, H2⟩

/-- The loops in a piece of code, by the numbers of the blocks around. -/
def loopsIn : Nat → Code → List (Nat × Code)
  | bid, .loop c => [(bid, c)]
  | bid, .seq x y => loopsIn bid x ++ loopsIn bid y
  | bid, .cond _ x y => loopsIn bid x ++ loopsIn bid y
  | _, .block id x => loopsIn id x
  | bid, .scope x => loopsIn bid x
  | _, _ => []
theorem LoopsOk.of {P : Program} {k : Nat} {L : Loops} : ∀ {c : Code} {bid : Nat}, (∀ q ∈ loopsIn bid c, ∀ s p T, L q.1 s = some (p, T) → ∀ Q, T.All Q → ∀ s', Go.Eng.like p s' = p → Tr P k (.loop q.2) s' Q) → LoopsOk P k L bid c
  | .loop c, bid, h => h (bid, c) (List.mem_singleton_self _)
  | .seq x y, bid, h => ⟨LoopsOk.of fun p hp => h p (List.mem_append_left _ hp), LoopsOk.of fun p hp => h p (List.mem_append_right _ hp)⟩
  | .cond _ x y, bid, h => ⟨LoopsOk.of fun p hp => h p (List.mem_append_left _ hp), LoopsOk.of fun p hp => h p (List.mem_append_right _ hp)⟩
  | .block id x, bid, h => LoopsOk.of (c := x) (bid := id) h
  | .scope x, bid, h => LoopsOk.of (c := x) (bid := bid) h
  | .skip, _, _ | .region .., _, _ | .rangeFunc .., _, _ | .exit _, _, _ | .label _, _, _ | .goto _, _, _ | .ret, _, _ | .refuse _, _, _ => trivial
/-- No loop is told. -/
def noLoops : Loops := fun _ _ => none
theorem LoopsOk.none {P : Program} {k : Nat} {c : Code} {bid : Nat} : LoopsOk P k noLoops bid c := LoopsOk.of fun _ _ _ _ _ h => by cases h
def bodyOf (f : Func) : Code := f.body.getD .skip
def loopAt (f : Func) (k : Nat) : Code := ((loopsIn 9999 (bodyOf f))[k]?.map (·.2)).getD .skip
/-- Slots by their numbers. -/
def slots (n : Nat) (l : List (Nat × AV)) : List AV := (List.range n).map fun i => (l.lookup i).getD .unk
/-- A loop, by its tree T from each state S, and the tree R of a round. -/
theorem Tr_loopT {E : Env} (hK : KOk E) {k : Nat} (n bid : Nat) {c : Code} {ι : Type} (L : ι → Loops) (S : ι → St) (T R : ι → Tree) (μ : ι → Nat) (hL : ∀ i, LoopsOk E.P k (L i) bid c)
    (h1 : ∀ i, trim (R i) (evCode E (L i) n bid c (S i)) = R i) (h2 : ∀ i, (R i).wf k = true) (h3 : ∀ i, ∀ o ∈ obl (evCode E (L i) n bid c (S i)), onWay o.1 → o.2)
    (h4 : ∀ i, (sames (evCode E (L i) n bid c (S i))).map Prod.fst = (sames (evCode E (L i) n bid c (S i))).map Prod.snd)
    (step : ∀ i Q, (T i).All Q → (R i).All fun e s => match e with | .normal => ∃ j, μ j < μ i ∧ s = S j ∧ (T j).All Q | e => Q e s) (i : ι) (Q : Exit → St → Prop) (hq : (T i).All Q) : Tr E.P k (.loop c) (S i) Q := by
  refine Tr_loop (ι := { j : ι // (T j).All Q }) (fun j => S j.1) (fun j => μ j.1) (Q := fun _ => Q) (fun j => ?_) ⟨i, hq⟩
  refine (Tr_tree hK n bid (hL j.1) (R j.1) (h1 j.1) (h2 j.1) (h3 j.1) (h4 j.1) (step j.1 Q j.2)).mono fun e s h => ?_
  cases e with
  | normal => obtain ⟨j2, a, b, c⟩ := h; exact ⟨⟨j2, c⟩, a, b, fun _ _ h => h⟩
  | _ => exact h
theorem LoopsOk.all {P : Program} {k : Nat} {L : Loops} {c : Code} {bid : Nat} {l : List (Nat × Code)} (h : loopsIn bid c = l)
    (hl : ∀ q ∈ l, ∀ s p T, L q.1 s = some (p, T) → p.wf = true ∧ k ≤ p.h.length ∧ ∀ Q, T.All Q → Tr P k (.loop q.2) p Q) : LoopsOk P k L bid c :=
  LoopsOk.of fun q hq s p T hs Q hQ _ hlk => by
    obtain ⟨a, b, c⟩ := hl q (h ▸ hq) s p T hs
    exact (c Q hQ).like hlk a b
theorem LoopsOk.one {P : Program} {k b : Nat} {c g : Code} {bid : Nat} {p : St} {T : Tree} (h : loopsIn bid c = [(b, g)]) (hw : p.wf = true) (hk : k ≤ p.h.length) (ht : ∀ Q, T.All Q → Tr P k (.loop g) p Q) :
    LoopsOk P k (fun _ _ => some (p, T)) bid c := LoopsOk.all h fun q hq s p' T' hs => by
  simp only [List.mem_singleton] at hq
  subst hq
  simp only [Option.some.injEq, Prod.mk.injEq] at hs
  obtain ⟨rfl, rfl⟩ := hs
  exact ⟨hw, hk, ht⟩
end Go.Eng
