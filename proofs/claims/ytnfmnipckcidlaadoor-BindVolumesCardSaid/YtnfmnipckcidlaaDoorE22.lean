/- The engine, part 22: ranges over functions: the statement. -/
import Derived.Test.YtnfmnipckcidlaaDoorE21
set_option linter.unusedVariables false
set_option linter.unusedSimpArgs false
namespace Go.Eng
open Go.RowKit (Below)

theorem hset_end (h : List AObj) (o : AObj) : hset h h.length o = h ++ [o] := by
  induction h with
  | nil => rfl
  | cons x h ih => simp only [List.length_cons, hset, ih, List.cons_append]
theorem likeH_hset : ∀ {p s : List AObj} {n : Nat}, likeH p s = p → hget p n = .dead → likeH p (hset s n .dead) = p
  | [], s, n, _, _ => by simp [likeH]
  | p :: ps, [], n, h, _ => by simp [likeH] at h
  | p :: ps, o :: os, 0, h, hd => by
    simp only [hget, List.getD_cons_zero] at hd
    subst hd
    simp only [likeH, List.cons.injEq, true_and] at h
    simp only [hset, likeH, h]
  | p :: ps, o :: os, n + 1, h, hd => by
    simp only [likeH, List.cons.injEq] at h
    simp only [hset, likeH, List.cons.injEq]
    exact ⟨h.1, likeH_hset h.2 (by simpa [hget] using hd)⟩
/-- The world goes on; more is kept. -/
theorem SimH.later {B B' : Nat → Prop} {w0 w w1 : World} {M0 M : Mem} {h : List AObj} {ρ : Loc} (H : SimH B w0 M0 h w ρ M) (hw : ∀ k, k < w.heap.size → w1.heap[k]? = w.heap[k]?) (hsz : w.heap.size ≤ w1.heap.size) (hsub : ∀ b, B b → B' b)
    (hown : ∀ r id, ρ.own r = some id → ¬ B' r) (hB : ∀ b, B' b → b < w1.heap.size) : SimH B' w1 M h w1 ρ M where
  obj := fun id => (H.obj id).keep (Loc.le_refl _) (Mem.le_refl _) fun r hr => ⟨hr, hw r (H.own r id hr).2, fun _ h => h⟩
  fresh := H.fresh
  own := fun r id hr => ⟨hown r id hr, Nat.lt_of_lt_of_le (H.own r id hr).2 hsz⟩
  mem := fun b o v hv => by
    have h1 := H.mem b o v hv
    have h2 := World.block_lt_of_cell? w _ h1
    rw [← h1]
    unfold World.cell?
    rw [hw b h2]
  old := fun _ _ _ => rfl
  below := Keeps.refl _ _
  size := hB
  good := fun w' h' => H.good w' fun k hk => ((h' k (hsub k hk)).trans (hw k (H.size k hk))).trans (H.below.block k hk)

/-- What must hold where the iterator has come back. -/
def rgEnds (P : Program) (fn : Func) (t : List AV) (n site : Nat) (t' : List AV) (Q : Exit → St → Prop) (e : Exit) (s : St) : Prop :=
  ((match e with | .ret | .normal => True | _ => False) ∧ ∃ x, resAV P fn s = some x) ∧ ∃ pd h2, hget s.h n = .loop site t' pd ∧ pdOf (exOf pd) = some pd ∧ likeH h2 s.h = h2 ∧ h2.all (AObj.lt h2.length) = true ∧ Nat.ble n h2.length = true ∧ hget h2 n = .dead ∧ Q (exOf pd) ⟨t, h2⟩
theorem repL_keepT {ρ : Loc} {M : Mem} {G : Nat → Bool → Prop} (keep : List Nat) {t : List AV} {vs : List Value} (h : repL ρ M G t vs) : repL ρ M G (keepT keep t) vs := by
  have key : ∀ (t us : List AV) (vs : List Value), t.length = us.length → (∀ i, us.getD i .unk = .unk ∨ us.getD i .unk = t.getD i .unk) → repL ρ M G t vs → repL ρ M G us vs := by
    intro t
    induction t with
    | nil => intro us vs hl _ h; cases us <;> simp at hl; exact h
    | cons x t ih =>
      intro us vs hl hk h
      cases us with
      | nil => simp at hl
      | cons u us =>
        cases vs with
        | nil => simp [repL] at h
        | cons v vs =>
          simp only [repL] at h ⊢
          refine ⟨?_, ih us vs (by simpa using hl) (fun i => by simpa using hk (i + 1)) h.2⟩
          rcases hk 0 with h0 | h0
          · simp at h0; rw [h0]; simp [rep]
          · simp at h0; rw [h0]; exact h.1
  refine key t _ vs (by simp [keepT]) (fun i => ?_) h
  rw [keepT_getD]
  split
  · exact .inr rfl
  · exact .inl rfl
theorem enterLoop_inner {P : Program} {w : World} {l₀ : Nat} {r₀ : Loop} (h : w.heap[l₀]? = some (.loop r₀)) (fn : FuncId) (tmps : Array Value) (ps : Array Tmp) (asg body : Code) :
    (Instr.enterLoop fn tmps ps asg body (some l₀)).run P w = .ok (w.heap.size, []) (w.alloc (.loop { state := .ready, pending := none, fn, tmps, params := ps, assign := asg, body, defers := r₀.defers })) := by
  unfold Instr.enterLoop
  simp only [Sem.run_bind, run_getLoop h, run_newObj_alloc, Result.andThen, Sem.run_pure]
/-- The loop's record has been laid. -/
theorem enter_range {P : Program} {ro : Option Nat} {D : List Deferred} {B : Nat → Prop} {w0 w : World} {M0 M : Mem} {s : St} {a : Act} {ρ : Loc} (hro : RoOk ro B w0) (H : Sim D B w0 M0 s a w ρ M) (fn : FuncId) (ps : Array Tmp) (asg body : Code) :
    ∃ (l : Nat) (rs : List Nat) (w1 : World) (B' : Nat → Prop) (rec : Loop), (Instr.enterLoop fn a.tmps ps asg body ro).run P w = .ok (l, rs.map markD) w1 ∧ w1.heap[l]? = some (.loop rec) ∧ rec.state = .ready ∧ rec.pending = none ∧ rec.tmps = a.tmps ∧ rec.params = ps ∧ rec.assign = asg ∧ rec.body = body ∧
      CtxLe D B w0 M0 (rs.map markD ++ D) B' w1 M ∧ SimH B' w1 M s.h w1 ρ M ∧ (∀ i, ρ.own l ≠ some i) ∧ ¬ B' l ∧ ∀ o, M l o = none := by
  have hunown : ∀ l i, w.heap.size ≤ l → ρ.own l ≠ some i := fun l i hl e => by have := (H.h.own l i e).2; omega
  cases ro with
  | none =>
    obtain ⟨w1, hw1⟩ : ∃ w1, w1 = (w.alloc (.deferred (some []))).alloc (.loop { state := .ready, pending := none, fn, tmps := a.tmps, params := ps, assign := asg, body, defers := w.heap.size }) := ⟨_, rfl⟩
    have hold : ∀ k, k < w.heap.size → w1.heap[k]? = w.heap[k]? := fun k hk => by
      rw [hw1, Below.heap_alloc _ _ _ (by simp; omega), Below.heap_alloc _ _ _ hk]
    have hsz : w1.heap.size = w.heap.size + 2 := by rw [hw1]; simp
    have hK : w1.heap[w.heap.size]? = some (.deferred (some [])) := by rw [hw1, Below.heap_alloc _ _ _ (by simp)]; exact World.alloc_heap_new w _
    refine ⟨w.heap.size + 1, [w.heap.size], w1, fun b => B b ∨ b = w.heap.size, { state := .ready, pending := none, fn, tmps := a.tmps, params := ps, assign := asg, body, defers := w.heap.size }, by rw [hw1]; exact run_enterLoop_outer _ _ _ _ _, ?_, rfl, rfl, rfl, rfl, rfl, rfl, ?_, ?_, fun i => hunown _ i (by omega), ?_, fun o => Mem.none_new H.h (by omega) o⟩
    · rw [hw1]
      have := World.alloc_heap_new (w.alloc (.deferred (some []))) (.loop { state := .ready, pending := none, fn, tmps := a.tmps, params := ps, assign := asg, body, defers := w.heap.size })
      rwa [World.size_alloc] at this
    · refine ⟨⟨[w.heap.size], rfl, by simp, fun r hr => ?_⟩, fun b hb => .inl hb, H.h.below.trans ?_, fun b o hb => H.h.old b o hb⟩
      · simp only [List.mem_singleton] at hr
        subst hr
        exact ⟨.inr rfl, fun hb => Nat.lt_irrefl _ (H.h.size _ hb), hK⟩
      · rw [hw1]
        exact ((Keeps.refl B w).alloc H.h.size _).alloc (fun b hb => by have := H.h.size b hb; simp; omega) _
    · refine H.h.later hold (by omega) (fun b hb => .inl hb) (fun r id hr hb => ?_) fun b hb => ?_
      · rcases hb with hb | hb
        · exact (H.h.own r id hr).1 hb
        · exact hunown r id (by omega) hr
      · rcases hb with hb | hb
        · have := H.h.size b hb; omega
        · omega
    · rintro (hb | hb)
      · have := H.h.size _ hb; omega
      · omega
  | some l₀ =>
    obtain ⟨hBl, r₀, hr0⟩ := hro l₀ rfl
    have hl0 : w.heap[l₀]? = some (.loop r₀) := (H.h.below.block l₀ hBl).trans hr0
    obtain ⟨w1, hw1⟩ : ∃ w1, w1 = w.alloc (.loop { state := .ready, pending := none, fn, tmps := a.tmps, params := ps, assign := asg, body, defers := r₀.defers }) := ⟨_, rfl⟩
    have hold : ∀ k, k < w.heap.size → w1.heap[k]? = w.heap[k]? := fun k hk => by rw [hw1, Below.heap_alloc _ _ _ hk]
    have hsz : w1.heap.size = w.heap.size + 1 := by rw [hw1]; simp
    refine ⟨w.heap.size, [], w1, B, { state := .ready, pending := none, fn, tmps := a.tmps, params := ps, assign := asg, body, defers := r₀.defers }, by rw [hw1]; exact enterLoop_inner hl0 _ _ _ _ _, ?_, rfl, rfl, rfl, rfl, rfl, rfl, ?_, ?_, fun i => hunown _ i (by omega), ?_, fun o => Mem.none_new H.h (by omega) o⟩
    · rw [hw1]; exact World.alloc_heap_new w _
    · refine ⟨⟨[], rfl, by simp, nofun⟩, fun b hb => hb, H.h.below.trans ?_, fun b o hb => H.h.old b o hb⟩
      rw [hw1]
      exact (Keeps.refl B w).alloc H.h.size _
    · exact H.h.later hold (by omega) (fun b hb => hb) (fun r id hr hb => (H.h.own r id hr).1 hb) fun b hb => by have := H.h.size b hb; omega
    · intro hb; have := H.h.size _ hb; omega
/-- A range over a function whose iterator's code is told. -/
theorem Tr_range {P : Program} {k : Nat} {p : St} {site : Nat} {gf : FuncId} {fn : Func} {c : Code} {f : Operand} {ps : Array Tmp} {asg body : Code} {cap : List AV} {Q : Exit → St → Prop} (n : Nat) (keep : List Nat) (t' : List AV) (args : List AV) (h1 : List AObj) (hs : Globs.site site = (ps, asg, body)) (hf : opd p.t f = .fn gf cap)
    (hfn : P.funcs[gf]? = some fn) (hb : fn.body = some c) (hname : (fn.name == "runtime.NumGoroutine") = false) (hw : p.wf = true) (hk : Nat.ble k p.h.length = true) (hn : p.h.length = n) (ht : keepT keep p.t = t') (hargs' : .yld n :: cap = args) (hh : p.h ++ [.loop site t' none] = h1) (hcap : ltL (n + 1) args = true)
    (htr : Tr P (n + 1) c (fnBegins fn args h1) (rgEnds P fn p.t n site t' Q)) : Tr P k (.rangeFunc f ps asg body) p Q := by
  subst hn hargs' hh
  replace hk := Nat.le_of_ble_eq_true hk
  intro ro D B w0 M0 a w ρ M hro H
  have hwf := hw
  simp only [St.wf, Bool.and_eq_true] at hwf
  have hpt := hwf.1
  have hrepf : rep ρ M noG (opd p.t f) (a.eval f) := by
    refine rep_opd (fun i => ?_) f
    have hg := ltL_notGrd hpt i
    have := H.t.at_ i
    show rep ρ M noG (p.t.getD i .unk) (a.tmps.getD i undef)
    generalize p.t.getD i .unk = x at hg this
    cases x
    case grd => exact absurd rfl (hg _ _ _)
    all_goals exact this
  rw [hf] at hrepf
  simp only [rep] at hrepf
  obtain ⟨lb, hg, hlb⟩ := hrepf
  refine wpIn_rangeFunc fun fnid _ => ?_
  obtain ⟨l, rs, w1, B', rec, henter, hl1, r1, r2, r3, r4, r5, r6, hctx, H1, hun, hBl, hMl⟩ := enter_range (P := P) hro H fnid ps asg body
  have hn0 : ρ p.h.length = none := H.h.fresh _ (Nat.le_refl _)
  have hle := Loc.le_put (r := l) (x := .blk l) hn0
  have H2 : SimH B' w1 M (p.h ++ [.loop site t' none]) w1 (ρ.put p.h.length (.blk l) l) M := by
    have := H1.take p.h.length hn0 (.loop site t' none) (.blk l) l (fun i hi => absurd hi (hun i)) hBl (Array.getElem?_eq_some_iff.1 hl1).1 (fun _ _ _ => rfl) (Keeps.refl _ _) (Mem.le_refl _) (fun _ _ _ => rfl) (fun o v hv => by rw [hMl o] at hv; cases hv)
      ⟨l, rec, by simp [Loc.put], by simp [Loc.put], hl1, by rw [hs, r4, r5, r6], r1, r2, by rw [r3, ← ht]; exact repL_mono hle (Mem.le_refl _) (fun _ _ h => h) _ _ (repL_keepT keep (repL_of_simT H.t hpt)), hMl⟩
    rwa [hset_end] at this
  have hargs : repL (ρ.put p.h.length (.blk l) l) M noG (.yld p.h.length :: cap) (.func (.yield l) #[] #[] :: lb) := by
    simp only [repL, rep]
    exact ⟨⟨l, by simp [Loc.put], rfl⟩, repL_mono hle (Mem.le_refl _) (fun _ _ h => h) _ _ hlb⟩
  refine ⟨l, rs.map markD, w1, { target := .fn (.func gf) ⟨lb⟩, args := #[.func (.yield l) #[] #[]] }, w1, gf, #[.func (.yield l) #[] #[]] ++ ⟨lb⟩, w1, henter, ?_, fun _ _ => trivial, ?_, fun h => by simp [Fence.wide] at h, ?_⟩
  · simp only [resolve, hg]
    simp [go_sem]
  · simp [invoke, go_sem, ent_of hfn hb hname]
  · refine callsIn_wide.2 ?_
    have hcalls := calls_of_Tr hfn hb htr (fun e s hq => hq.1) H2 hcap hargs
    rw [show (#[.func (.yield l) #[] #[]] ++ (⟨lb⟩ : Array Value)) = (⟨.func (.yield l) #[] #[] :: lb⟩ : Array Value) from by apply Array.ext'; simp]
    refine hcalls.mono ?_
    rintro e w3 ⟨e', s', v, ρ3, M3, rfl, hq, hk3, hM3, H3, _⟩
    obtain ⟨_, pd, h2, q1, q2, q3, q4, q5, q6, hQ⟩ := hq
    have hρ3 : ρ3 p.h.length = some (.blk l) := hk3 _ _ (Nat.lt_succ_self _) (by simp [Loc.put])
    have hob := H3.obj p.h.length
    rw [q1] at hob
    obtain ⟨l', rec3, o1, o2, o3, _, o5, o6, _, o8⟩ := hob
    obtain rfl : l = l' := by rw [hρ3] at o1; injection o1 with o1; injection o1
    have hbusy : rec3.state ≠ .busy := by rw [o5]; split <;> nofun
    obtain ⟨w4, hw4⟩ : ∃ w4, w4 = w3.putObj l (.loop { rec3 with state := .exhausted }) := ⟨_, rfl⟩
    have ho4 : ∀ b, b ≠ l → w4.heap[b]? = w3.heap[b]? := fun b hb => by rw [hw4]; exact World.putObj_heap_other hb
    have H4 : SimH B' w1 M (hset s'.h p.h.length .dead) w4 ρ3 M3 := by
      refine (H3.kill p.h.length).world (Mem.le_refl _) (fun i r hd hr => ⟨ho4 r fun e => hd ?_, fun _ h => h⟩) (fun b o v hv => ?_) (fun _ _ _ => rfl) ?_
      · rw [e, o2] at hr
        injection hr with hr
        rw [hget_hset, if_pos hr]
      · by_cases e : b = l
        · rw [e, o8 o] at hv; cases hv
        · have := H3.mem b o v hv
          rw [← this]; unfold World.cell?; rw [ho4 b e]
      · rw [hw4]
        exact ⟨rfl, rfl, rfl, by simp, fun k hk => World.putObj_heap_other fun e => (H3.own l _ o2).1 (by rw [← e]; exact hk)⟩
    have H5 := Sim.lessH H4 (likeH_hset q3 q6) q4
    have hkp : kept p.h.length ρ (ρ3.ren id h2.length) := fun i r hi hr => by
      have h1 := hk3 i r (by omega) (hle i r hr)
      have q5 := Nat.le_of_ble_eq_true q5
      simp only [Loc.ren]
      rw [if_pos (by omega)]; exact h1
    refine ⟨rec3.pending, w4, by rw [hw4]; exact run_endLoop o3 hbusy, ?_⟩
    have hpost : TrPost k D B w0 M0 ρ M Q (exOf pd) { a with defers := rs.map markD ++ a.defers } w4 := by
      refine ⟨⟨p.t, h2⟩, _, M3, rs.map markD ++ D, B', w1, M, hctx, hQ, fun i r hi hr => hkp i r (by omega) hr, hM3, H5, ⟨H.t.len, by rw [H.t.defers], fun i => ?_⟩⟩
      have hg' := ltL_notGrd hpt i
      have hl := ltL_getD hpt i
      have := H.t.at_ i
      show repS _ _ _ (p.t.getD i .unk) (a.tmps.getD i undef)
      generalize p.t.getD i .unk = x at hg' this hl
      have h6 : rep ρ M noG x (a.tmps.getD i undef) := by
        cases x
        case grd => exact absurd rfl (hg' _ _ _)
        all_goals exact this
      have h7 := rep_mono (Loc.le_refl _) hM3 (fun _ _ h => h) _ _ (rep_kept hkp hl h6)
      cases x
      case grd => exact absurd rfl (hg' _ _ _)
      all_goals exact h7
    rw [o6]
    cases pd with
    | none => exact hpost
    | some c =>
      cases c <;> simp only [exOf, pdOf, Option.some.injEq, reduceCtorEq] at q2 hpost <;> first
        | exact wpIn_ret hpost
        | exact wpIn_exit hpost
        | exact wpIn_goto hpost
end Go.Eng
