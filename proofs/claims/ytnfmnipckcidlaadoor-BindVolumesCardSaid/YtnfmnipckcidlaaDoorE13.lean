/- The engine, part 13: what a function does, by what its code comes to. -/
import Derived.Test.YtnfmnipckcidlaaDoorE12
set_option linter.unusedVariables false
set_option linter.unusedSimpArgs false
namespace Go.Eng
open Go.RowKit (Below)

mutual
theorem rep_cut {ρ : Loc} {M : Mem} {G : Nat → Bool → Prop} {n : Nat} : ∀ (x : AV) (v : Value), x.lt n = true → rep ρ M G x v → rep (ρ.ren id n) M G x v
  | x, v, hl, h => (rep_ren (ρ := ρ) (ρ' := ρ.ren id n) (G := G) (G' := G) (σ := id) (fun k hk => Loc.ren_at (σ := id) hk) x v hl).1 (by rw [ren_id x]; exact h)
theorem ren_id : ∀ x : AV, ren id x = x
  | .unk | .int .. | .bool _ | .str _ | .nilp | .ptr .. | .ep .. | .evp .. | .nils | .vec _ | .vsub .. | .coll _ | .yld _ | .nxt .. | .nilf | .map _ | .nilm | .nili | .grd .. => by simp [ren]
  | .agg cs => by simp [ren, renL_id cs]
  | .tup cs => by simp [ren, renL_id cs]
  | .fn f cs => by simp [ren, renL_id cs]
  | .iface t x => by simp [ren, ren_id x]
theorem renL_id : ∀ x : List AV, renL id x = x
  | [] => rfl
  | x :: xs => by simp [renL, ren_id x, renL_id xs]
end

/-- The numbers that a function's objects have at the call. -/
def sig (ids : List Nat) (nid k : Nat) : Nat := if k < ids.length then ids.getD k 0 else nid + (k - ids.length)
def effsOf (σ : Nat → Nat) : Nat → List AObj → Eff
  | _, [] => []
  | k, o :: os => (σ k, renO σ o) :: effsOf σ (k + 1) os
theorem effsOf_mem {σ : Nat → Nat} : ∀ (os : List AObj) (k : Nat) (e : Nat × AObj), e ∈ effsOf σ k os → ∃ j, j < os.length ∧ e.1 = σ (k + j)
  | [], _, _, h => by simp [effsOf] at h
  | o :: os, k, e, h => by
    simp only [effsOf, List.mem_cons] at h
    rcases h with rfl | h
    · exact ⟨0, by simp, rfl⟩
    · obtain ⟨j, h1, h2⟩ := effsOf_mem os (k + 1) e h
      exact ⟨j + 1, by simpa using h1, by rw [h2]; congr 1; omega⟩
theorem mem_effsOf {σ : Nat → Nat} : ∀ (os : List AObj) (k j : Nat), j < os.length → ∃ e ∈ effsOf σ k os, e.1 = σ (k + j)
  | [], _, _, h => by simp at h
  | o :: os, k, 0, _ => ⟨_, List.mem_cons_self, rfl⟩
  | o :: os, k, j + 1, h => by
    obtain ⟨e, h1, h2⟩ := mem_effsOf os (k + 1) j (by simpa using h)
    exact ⟨e, List.mem_cons_of_mem _ h1, by rw [h2]; congr 1; omega⟩
theorem hget_applyEff_ne (effs : Eff) : ∀ (h : List AObj) (id : Nat), (∀ e ∈ effs, e.1 ≠ id) → hget (applyEff h effs) id = hget h id := hget_applyEff effs
theorem hget_effsOf {σ : Nat → Nat} {n : Nat} (hinj : ∀ i j, i < n → j < n → σ i = σ j → i = j) : ∀ (os : List AObj) (k j : Nat) (h : List AObj), k + os.length ≤ n → j < os.length → hget (applyEff h (effsOf σ k os)) (σ (k + j)) = renO σ (os.getD j .dead)
  | [], _, _, _, _, h => by simp at h
  | o :: os, k, 0, h, hn, _ => by
    simp only [effsOf, applyEff, List.foldl_cons, Nat.add_zero, List.getD_cons_zero]
    simp only [List.length_cons] at hn
    rw [show List.foldl (fun h p => hset h p.1 p.2) (hset h (σ k) (renO σ o)) (effsOf σ (k + 1) os) = applyEff (hset h (σ k) (renO σ o)) (effsOf σ (k + 1) os) from rfl]
    rw [hget_applyEff, hget_hset, if_pos rfl]
    intro e he hh
    obtain ⟨j, h1, h2⟩ := effsOf_mem os (k + 1) e he
    have := hinj _ _ (by omega) (by omega) (h2.symm.trans hh)
    omega
  | o :: os, k, j + 1, h, hn, hj => by
    simp only [effsOf, applyEff, List.foldl_cons, List.getD_cons_succ]
    simp only [List.length_cons] at hn hj
    have := hget_effsOf hinj os (k + 1) j (hset h (σ k) (renO σ o)) (by omega) (by omega)
    rw [show k + 1 + j = k + (j + 1) from by omega] at this
    exact this

/-- A result. -/
def resOne (P : Program) (s : St) : ResultVar → Option AV
  | .tmp t => some (ungrd [] (s.t.getD t .unk))
  | .cell a t => match ungrd [] (s.t.getD a .unk) with
    | .ptr id off => match hget s.h id with
      | .cells _ cs => loadFrom P t cs off
      | _ => none
    | _ => none
def resList (P : Program) (s : St) : List ResultVar → Option (List AV)
  | [] => some []
  | r :: rs => match resOne P s r, resList P s rs with
    | some x, some xs => some (x :: xs)
    | _, _ => none
def resAV (P : Program) (fn : Func) (s : St) : Option AV := match resList P s fn.results.toList with
  | some [x] => some x
  | some xs => some (.tup xs)
  | none => none

section
variable {P : Program} {D : List Deferred} {B : Nat → Prop} {w0 w : World} {M0 M : Mem} {ρ : Loc} {a : Act} {s : St}
theorem rep_slot (H : Sim D B w0 M0 s a w ρ M) (i : Nat) : rep ρ M noG (ungrd [] (s.t.getD i .unk)) (a.tmps.getD i undef) := rep_ungrd (G := noG) (fun _ _ h => by cases h) (H.t.at_ i)
theorem resOne_run (H : Sim D B w0 M0 s a w ρ M) {r : ResultVar} {x : AV} (hx : resOne P s r = some x) :
    ∃ v, (match r with | .tmp t => pure (a.tmps.getD t undef) | .cell ad t => do loadVar t (← asAddr (a.tmps.getD ad undef)) : Sem Value).run P w = .ok v w ∧ rep ρ M noG x v := by
  cases r with
  | tmp t =>
    simp only [resOne, Option.some.injEq] at hx
    subst hx
    exact ⟨_, rfl, rep_slot H t⟩
  | cell ad t =>
    simp only [resOne] at hx
    split at hx
    · rename_i id off hs
      split at hx
      · rename_i ct cs hcs
        have hp := rep_slot H ad
        rw [hs] at hp
        obtain ⟨u, hu, hr⟩ := load_ptr (P := P) H.h hcs hx hp
        refine ⟨u, ?_, hr⟩
        simp only [rep] at hp
        obtain ⟨r, _, hv⟩ := hp
        show (do loadVar t (← asAddr (a.tmps.getD ad undef)) : Sem Value).run P w = _
        rw [hv] at hu ⊢
        simpa [Instr.loadAt, Instr.sureAddr, asAddr] using hu
      · cases hx
    · cases hx
theorem resList_run (H : Sim D B w0 M0 s a w ρ M) : ∀ {rs : List ResultVar} {xs : List AV}, resList P s rs = some xs →
    ∃ vs, (rs.mapM fun r => (match r with | .tmp t => pure (a.tmps.getD t undef) | .cell ad t => do loadVar t (← asAddr (a.tmps.getD ad undef)) : Sem Value)).run P w = .ok vs w ∧ repL ρ M noG xs vs
  | [], xs, h => by
    simp only [resList, Option.some.injEq] at h
    subst h
    exact ⟨[], by simp, by simp [repL]⟩
  | r :: rs, xs, h => by
    simp only [resList] at h
    split at h
    · rename_i y ys hy hys
      injection h with h
      subst h
      obtain ⟨v, hv, hr⟩ := resOne_run H hy
      obtain ⟨vs, hvs, hrs⟩ := resList_run H hys
      refine ⟨v :: vs, ?_, by simp only [repL]; exact ⟨hr, hrs⟩⟩
      simp only [List.mapM_cons, Sem.run_bind, hv, Result.andThen_ok, hvs, Sem.run_pure]
    · cases h
theorem resAV_run (H : Sim D B w0 M0 s a w ρ M) {fn : Func} {x : AV} (hx : resAV P fn s = some x) : ∃ v, (results fn a.tmps).run P w = .ok v w ∧ rep ρ M noG x v := by
  unfold resAV at hx
  cases hr : resList P s fn.results.toList with
  | none => rw [hr] at hx; cases hx
  | some xs =>
    obtain ⟨vs, hvs, hrs⟩ := resList_run H hr
    have hrun : (results fn a.tmps).run P w = .ok (if h : (⟨vs⟩ : Array Value).size = 1 then (⟨vs⟩ : Array Value)[0] else .tuple ⟨vs⟩) w := by
      unfold results
      rw [← Array.toArray_toList (xs := fn.results), List.mapM_toArray]
      simp only [Sem.run_bind, Sem.run_map]
      have : ∀ f : ResultVar → Sem Value, (f = fun r => (match r with | .tmp t => pure (a.tmps.getD t undef) | .cell ad t => do loadVar t (← asAddr (a.tmps.getD ad undef)) : Sem Value)) → (fn.results.toList.mapM f).run P w = .ok vs w := fun f hf => by rw [hf]; exact hvs
      rw [this _ (by funext r; cases r <;> rfl)]
      rfl
    refine ⟨_, hrun, ?_⟩
    rw [hr] at hx
    clear hvs hr
    match xs, vs, hrs, hx with
    | [], [], _, hx =>
      obtain rfl : AV.tup [] = x := by injection hx
      simp only [rep]
      exact ⟨[], rfl, by simp [repL]⟩
    | [y], [v], hrs, hx =>
      obtain rfl : y = x := by injection hx
      simp only [repL] at hrs
      exact hrs.1
    | y :: z :: xs, v :: u :: vs, hrs, hx =>
      obtain rfl : AV.tup (y :: z :: xs) = x := by injection hx
      have : (⟨v :: u :: vs⟩ : Array Value).size ≠ 1 := by simp
      rw [dif_neg this]
      simp only [rep]
      exact ⟨_, rfl, hrs⟩
    | [], _ :: _, hrs, _ => simp [repL] at hrs
    | [_], [], hrs, _ => simp [repL] at hrs
    | [_], _ :: _ :: _, hrs, _ => simp [repL] at hrs
    | _ :: _ :: _, [], hrs, _ => simp [repL] at hrs
    | _ :: _ :: _, [_], hrs, _ => simp [repL] at hrs
end

/-- What is read of a result. -/
def coerceX (h : List AObj) : AV → AV
  | .tup cs => .tup (cs.map (coerce h))
  | x => coerce h x
theorem rep_coerceX {B : Nat → Prop} {w0 w : World} {M0 M : Mem} {ρ : Loc} {h : List AObj} (H : SimH B w0 M0 h w ρ M) {x : AV} {v : Value} (hv : rep ρ M noG x v) : rep ρ M noG (coerceX h x) v := by
  unfold coerceX
  split
  · simp only [rep] at hv ⊢
    obtain ⟨vs, h1, h2⟩ := hv
    exact ⟨vs, h1, repL_coerce H (fun _ _ => rfl) h2⟩
  · exact repC_vec H (fun _ _ => rfl) hv
def likeH : List AObj → List AObj → List AObj
  | p :: ps, o :: os => (match p with | .dead => .dead | _ => o) :: likeH ps os
  | [], _ => []
  | _ :: _, [] => []
theorem likeH_at : ∀ (p s : List AObj), likeH p s = p → ∀ i, hget p i = .dead ∨ hget p i = hget s i
  | [], s, _, i => by simp [hget]
  | p :: ps, [], h, i => by simp [likeH] at h
  | p :: ps, x :: xs, h, i => by
    simp only [likeH, List.cons.injEq] at h
    cases i with
    | zero =>
      have h1 := h.1
      cases p <;> simp only at h1 <;> simp [hget, h1]
    | succ i => simpa [hget] using likeH_at ps xs h.2 i
/-- What must hold at a function's end: the result x, the objects h1. -/
def fnEnds (P : Program) (fn : Func) (x : AV) (h1 : List AObj) (e : Exit) (s : St) : Prop := (match e with | .ret | .normal => True | _ => False) ∧ (resAV P fn s = some x ∨ (resAV P fn s).map (coerceX s.h) = some x) ∧ likeH h1 s.h = h1
/-- The state in which a function begins. -/
def fnBegins (fn : Func) (args : List AV) (h0 : List AObj) : St := ⟨args ++ List.replicate (fn.ntmps - args.length) .unk, h0⟩
/-- Is all that is told of objects told of those that are there? -/
def okIn (n : Nat) (args : List AV) (h0 : List AObj) : Bool := h0.length == n && ltL n args && h0.all (AObj.lt n) && h0.all fun o => match o with | .dead => false | _ => true
def okOut (n : Nat) (x : AV) (h1 : List AObj) : Bool := decide (n ≤ h1.length) && x.lt h1.length && h1.all (AObj.lt h1.length)
def okIds (ids : List Nat) (nid : Nat) : Bool := decide ids.Nodup && ids.all fun i => decide (i < nid)
theorem Sim.lessH {B : Nat → Prop} {w0 w : World} {M0 M : Mem} {ρ : Loc} {h h1 : List AObj} (H : SimH B w0 M0 h w ρ M) (hl : likeH h1 h = h1) (hw : h1.all (AObj.lt h1.length) = true) : SimH B w0 M0 h1 w (ρ.ren id h1.length) M := by
  refine ⟨fun k => ?_, fun k hk => by simp [Loc.ren, Nat.not_lt.2 hk], fun r k hr => H.own r _ (Loc.own_ren hr).2, H.mem, H.old, H.below, H.size, H.good⟩
  by_cases hd : hget h1 k = .dead
  · rw [hd]; trivial
  · have hk := hget_lt hd
    rcases likeH_at _ _ hl k with he | he
    · exact absurd he hd
    · have hobj := H.obj k
      rw [← he] at hobj
      have hlt : (hget h1 k).lt h1.length = true := by
        have := List.all_eq_true.1 hw (hget h1 k)
        refine this ?_
        simp only [hget, List.getD_eq_getElem?_getD, List.getElem?_eq_getElem hk, Option.getD_some]
        exact List.getElem_mem hk
      have hr : renO id (hget h1 k) = hget h1 k := by cases hget h1 k <;> simp [renO, renL_id]
      exact okObj.unren (σ := id) (n := h1.length) (fun k hk => Loc.ren_at (σ := id) hk) (fun r hr => Loc.ren_own (σ := id) (fun i j _ _ h => h) hk hr) hk hlt (by rw [hr]; exact hobj)
/-- Marks' blocks have been shut. -/
structure Shut (rs : List Nat) (w w' : World) : Prop where
  os : w'.os = w.os
  tape : w'.tape = w.tape
  output : w'.output = w.output
  size : w'.heap.size = w.heap.size
  block : ∀ k, k ∉ rs → w'.heap[k]? = w.heap[k]?
theorem leaves_marks {F : Fence} {n : Nat} {P : Program} {fn : Func} {tmps : Array Value} {R : Ending → World → Prop} : ∀ (rs : List Nat) (w : World), rs.Nodup → (∀ r ∈ rs, w.heap[r]? = some (.deferred (some []))) →
    (∀ w', Shut rs w w' → LeavesIn F n P fn tmps R [] .returning w') → LeavesInM F n P fn tmps R (rs.map markD) .returning w
  | [], w, _, _, h => h w ⟨rfl, rfl, rfl, rfl, fun _ _ => rfl⟩
  | r :: rs, w, hn, hh, h => by
    refine ⟨nofun, .inl ⟨r, _, rfl, run_takeDeferred (hh r List.mem_cons_self), ?_⟩⟩
    obtain ⟨hr, hn⟩ := List.nodup_cons.1 hn
    refine leaves_marks rs _ hn (fun q hq => ?_) fun w' hs => ?_
    · rw [World.putObj_heap_other (fun e : q = r => hr (by rw [← e]; exact hq))]
      exact hh q (List.mem_cons_of_mem _ hq)
    · refine h w' ⟨hs.os, hs.tape, hs.output, by rw [hs.size]; simp, fun k hk => ?_⟩
      rw [hs.block k (fun hm => hk (List.mem_cons_of_mem _ hm)), World.putObj_heap_other (fun e => hk (by rw [e]; exact List.mem_cons_self))]
theorem cell_none {w : World} {b o : Nat} (x : Obj) (h : w.heap[b]? = some x) (hx : ∀ vs t q, x ≠ .cells vs t q) : w.cell? ⟨b, o, none⟩ = none := by
  unfold World.cell?
  rw [h]
  cases x <;> first | rfl | exact absurd rfl (hx _ _ _)
/-- The function is left: what it kept for itself is let go of. -/
theorem SimH.leave {D D' : List Deferred} {B B' : Nat → Prop} {w0 w0' w w' : World} {M0 M0' M : Mem} {h : List AObj} {ρ : Loc} {rs : List Nat} (hc : CtxLe D B w0 M0 D' B' w0' M0') (H : SimH B' w0' M0' h w ρ M) (hs : Shut rs w w')
    (hrs : ∀ r ∈ rs, B' r ∧ ¬ B r ∧ w.heap[r]? = some (.deferred (some []))) (hg : ∀ w', (∀ k, B k → w'.heap[k]? = w0.heap[k]?) → Globs.G w') : SimH B w0 M0 h w' ρ M where
  obj := fun id => (H.obj id).keep (Loc.le_refl _) (Mem.le_refl _) fun r hr => ⟨hr, hs.block r fun hm => (H.own r id hr).1 (hrs r hm).1, fun _ h => h⟩
  fresh := H.fresh
  own := fun r id hr => ⟨fun hb => (H.own r id hr).1 (hc.sub r hb), by rw [hs.size]; exact (H.own r id hr).2⟩
  mem := fun b o v hv => by
    have h1 := H.mem b o v hv
    by_cases hb : b ∈ rs
    · rw [cell_none _ (hrs b hb).2.2 (by nofun)] at h1; cases h1
    · rw [← h1]; unfold World.cell?; rw [hs.block b hb]
  old := fun b o hb => (H.old b o (hc.sub b hb)).trans (hc.mem b o hb)
  below := (hc.keeps.trans (H.below.mono hc.sub)).trans ⟨hs.os, hs.tape, hs.output, by rw [hs.size]; exact Nat.le_refl _, fun k hk => hs.block k fun hm => (hrs k hm).2.1 hk⟩
  size := fun b hb => by rw [hs.size]; exact H.size b (hc.sub b hb)
  good := hg
theorem ltL_notGrd {n : Nat} {l : List AV} (h : ltL n l = true) (i : Nat) : ∀ j b x, l.getD i .unk ≠ .grd j b x := fun j b x e => by
  have := ltL_getD h i
  rw [e] at this
  simp [AV.lt] at this
/-- A call, from what its code comes to. -/
theorem calls_of_Tr {P : Program} {f : FuncId} {fn : Func} {c : Code} (hf : P.funcs[f]? = some fn) (hb : fn.body = some c) {k : Nat} {args : List AV} {h0 : List AObj} {Qf : Exit → St → Prop} (h : Tr P k c (fnBegins fn args h0) Qf)
    (hQ : ∀ e s, Qf e s → (match e with | .ret | .normal => True | _ => False) ∧ ∃ x, resAV P fn s = some x) {B : Nat → Prop} {w0 w : World} {M0 M : Mem} {ρ : Loc} {vs : List Value} (H : SimH B w0 M0 h0 w ρ M) {n : Nat} (hlt : ltL n args = true) (hargs : repL ρ M noG args vs) :
    Calls P f ⟨vs⟩ w fun e w' => ∃ e' s' v ρ' M', e = .returned v ∧ Qf e' s' ∧ kept k ρ ρ' ∧ M.le M' ∧ SimH B w0 M0 s'.h w' ρ' M' ∧ ∀ x, resAV P fn s' = some x → rep ρ' M' noG x v := by
  have hlen := repL_length hargs
  have hsim : Sim [] B w0 M0 (fnBegins fn args h0) { tmps := (⟨vs⟩ : Array Value) ++ Array.replicate (fn.ntmps - (⟨vs⟩ : Array Value).size) undef, defers := [] } w ρ M := by
    refine ⟨H, ⟨by simp [fnBegins, hlen], rfl, fun i => ?_⟩⟩
    simp only [fnBegins]
    rw [List.getD_eq_getElem?_getD, Array.getD_eq_getD_getElem?]
    rcases Nat.lt_or_ge i args.length with hi | hi
    · rw [List.getElem?_append_left hi, Array.getElem?_append_left (by simpa [← hlen] using hi)]
      obtain ⟨v, hv, hr⟩ := repL_get hargs i args[i] (List.getElem?_eq_getElem hi)
      rw [List.getElem?_eq_getElem hi]
      have hv' : (⟨vs⟩ : Array Value)[i]? = some v := by simpa using hv
      rw [hv']
      simp only [Option.getD_some]
      have hcl := ltL_notGrd hlt i
      rw [List.getD_eq_getElem?_getD, List.getElem?_eq_getElem hi, Option.getD_some] at hcl
      generalize args[i] = y at hr hcl ⊢
      cases y
      case grd => exact absurd rfl (hcl _ _ _)
      all_goals exact hr
    · rw [List.getElem?_append_right hi]
      have : (List.replicate (fn.ntmps - args.length) AV.unk)[i - args.length]?.getD AV.unk = AV.unk := by
        rw [List.getElem?_replicate]; split <;> rfl
      rw [this]
      simp [repS, rep]
  refine callsIn_wide.1 (callsIn_of_wp_marks (F := Fence.wide) (n := 0) hf hb trivial (wpIn_mono (h none [] B w0 M0 _ w ρ M nofun hsim) ?_))
  rintro e a' w' ⟨s', ρ', M', D', B', w0', M0', hc, hq, hk, hM, H'⟩
  obtain ⟨hret, x, hx⟩ := hQ e s' hq
  obtain ⟨rs, hD, hnd, hrs⟩ := hc.marks
  have hrs' : ∀ r ∈ rs, B' r ∧ ¬ B r ∧ w'.heap[r]? = some (.deferred (some [])) := fun r hr => ⟨(hrs r hr).1, (hrs r hr).2.1, (H'.h.below.block r (hrs r hr).1).trans (hrs r hr).2.2⟩
  have hdef : a'.defers = rs.map markD := by rw [H'.t.defers, hD]; simp
  have fin : LeavesInM Fence.wide 0 P fn a'.tmps (fun e w' => ∃ e' s' v ρ' M', e = .returned v ∧ Qf e' s' ∧ kept k ρ ρ' ∧ M.le M' ∧ SimH B w0 M0 s'.h w' ρ' M' ∧ ∀ x, resAV P fn s' = some x → rep ρ' M' noG x v) a'.defers .returning w' := by
    rw [hdef]
    refine leaves_marks rs w' hnd (fun r hr => (hrs' r hr).2.2) fun w2 hs => ?_
    have H2 := H'.h.leave hc hs hrs' H.good
    have S2 : Sim D' B w0 M0 s' a' w2 ρ' M' := ⟨H2, H'.t⟩
    obtain ⟨v, hrun, hrep⟩ := resAV_run S2 hx
    refine ⟨v, hrun, e, s', v, ρ', M', rfl, hq, hk, hM, H2, fun y hy => ?_⟩
    rw [hx] at hy
    injection hy with hy
    rw [← hy]; exact hrep
  cases e <;> first | exact hret.elim | exact fin
/-- The part of the memory that is handed over, by numbers of its own; what comes of it, back. -/
theorem framed {ids : List Nat} {args : List AV} {h0 : List AObj} (hin : okIn ids.length args h0 = true) {hr : List AObj} {nid : Nat} (hids : okIds ids nid = true)
    (hhr : ∀ k o, h0[k]? = some o → hget hr (sig ids nid k) = renO (sig ids nid) o) {B : Nat → Prop} {w0 w : World} {M0 M : Mem} {hh : List AObj} {ρ : Loc} {vs : List Value} (H : SimH B w0 M0 hh w ρ M) (hle : ∀ id, hget hr id ≠ .dead → hget hh id = hget hr id)
    (hargs : repL ρ M noG (renL (sig ids nid) args) vs) :
    ∃ B' ρc, SimH B' w M h0 w ρc M ∧ repL ρc M noG args vs ∧ ltL ids.length args = true ∧ (∀ k, k < ids.length → ∃ r, ρc k = some r) ∧
      ∀ (w' : World) (s' : List AObj) (ρ' : Loc) (M' : Mem) (v : Value) (x : AV) (h1 : List AObj), okOut ids.length x h1 = true → (∀ p ∈ effsOf (sig ids nid) 0 h1, nid ≤ p.1 → ρ p.1 = none) → likeH h1 s' = h1 → kept ids.length ρc ρ' → M.le M' → SimH B' w M s' w' ρ' M' → rep ρ' M' noG x v →
        ∃ ρ2 M2, ρ.only ρ2 (effsOf (sig ids nid) 0 h1) ∧ M.le M2 ∧ SimH B w0 M0 (applyEff hh (effsOf (sig ids nid) 0 h1)) w' ρ2 M2 ∧ rep ρ2 M2 noG (ren (sig ids nid) x) v := by
  simp only [okIn, okIds, Bool.and_eq_true, beq_iff_eq, decide_eq_true_eq, List.all_eq_true] at hin hids
  obtain ⟨⟨⟨hn, harg⟩, hlt0⟩, hlive⟩ := hin
  obtain ⟨hnd, hidlt⟩ := hids
  generalize hσ : sig ids nid = σ at *
  have hσlo : ∀ k, (hk : k < ids.length) → σ k = ids[k] := fun k hk => by rw [← hσ]; simp [sig, hk, List.getD_eq_getElem?_getD]
  have hσhi : ∀ k, ids.length ≤ k → σ k = nid + (k - ids.length) := fun k hk => by rw [← hσ]; simp [sig, Nat.not_lt.2 hk]
  have hσlt : ∀ k, k < ids.length → σ k < nid := fun k hk => by rw [hσlo k hk]; exact hidlt _ (List.getElem_mem hk)
  have hinj : ∀ i j, σ i = σ j → i = j := by
    intro i j hij
    rcases Nat.lt_or_ge i ids.length with hi | hi
    · rcases Nat.lt_or_ge j ids.length with hj | hj
      · rw [hσlo i hi, hσlo j hj] at hij
        exact (List.getElem_inj hnd).1 hij
      · have := hσlt i hi; rw [hσhi j hj] at hij; omega
    · rcases Nat.lt_or_ge j ids.length with hj | hj
      · have := hσlt j hj; rw [hσhi i hi] at hij; omega
      · rw [hσhi i hi, hσhi j hj] at hij; omega
  -- the objects that the call is given
  have hobj : ∀ k (hk : k < ids.length), hget hh (σ k) = renO σ h0[k] ∧ hget hh (σ k) ≠ .dead := by
    intro k hk
    have h1 := hhr k h0[k] (List.getElem?_eq_getElem (by omega))
    have h2 : hget hr (σ k) ≠ .dead := by
      rw [h1]
      intro hd
      have hd := renO_dead hd
      have := hlive h0[k] (List.getElem_mem (by omega))
      rw [hd] at this
      cases this
    have h3 := hle (σ k) h2
    exact ⟨h3.trans h1, by rw [h3]; exact h2⟩
  let B' : Nat → Prop := fun b => b < w.heap.size ∧ ∀ k, k < ids.length → ρ.own b ≠ some (σ k)
  let ρc : Loc := ρ.ren σ ids.length
  have hρc : ∀ k, k < ids.length → ρ (σ k) = ρc k := fun k hk => Loc.ren_at hk
  have hBB : ∀ b, B b → B' b := fun b hb => ⟨H.size b hb, fun k hk ho => (H.own b _ ho).1 hb⟩
  have hsimH : SimH B' w M h0 w ρc M := by
    refine ⟨fun k => ?_, fun k hk => by simp [ρc, Loc.ren, Nat.not_lt.2 (hn ▸ hk)], fun r k hr => ?_, H.mem, fun _ _ _ => rfl, Keeps.refl _ _, fun b hb => hb.1, fun w2 h2 => H.good w2 fun k hk => (h2 k (hBB k hk)).trans (H.below.block k hk)⟩
    · rcases Nat.lt_or_ge k ids.length with hk | hk
      · have hg : hget h0 k = h0[k] := by simp [hget, List.getD_eq_getElem?_getD, List.getElem?_eq_getElem (show k < h0.length by omega)]
        rw [hg]
        have := H.obj (σ k)
        rw [(hobj k hk).1] at this
        exact this.unren hρc (fun r hr => Loc.ren_own (fun i j _ _ h => hinj i j h) hk hr) hk (hlt0 _ (List.getElem_mem _))
      · have hg : hget h0 k = .dead := by simp [hget, List.getD_eq_getElem?_getD, List.getElem?_eq_none (show h0.length ≤ k by omega)]
        rw [hg]; trivial
    · obtain ⟨hk, ho⟩ := Loc.own_ren hr
      exact ⟨fun hb => hb.2 k hk ho, (H.own r _ ho).2⟩
  have hargs' := (repL_ren (G' := noG) hρc args vs harg).1 hargs
  have hall : ∀ k, k < ids.length → ∃ r, ρ (σ k) = some r := by
    intro k hk
    have := H.obj (σ k)
    have hd := (hobj k hk).2
    generalize hget hh (σ k) = o at this hd
    cases o with
    | dead => exact absurd rfl hd
    | cells t cs => obtain ⟨r, _, h1, _⟩ := this; exact ⟨_, h1⟩
    | vec f c => obtain ⟨r, h1, _⟩ := this; exact ⟨_, h1⟩
    | map m => obtain ⟨r, _, _, h1, _⟩ := this; exact ⟨_, h1⟩
    | iter s pos => obtain ⟨r, h1, _⟩ := this; exact ⟨_, h1⟩
    | loop site t pd => obtain ⟨r, _, h1, _⟩ := this; exact ⟨_, h1⟩
  refine ⟨B', ρc, hsimH, hargs', harg, fun k hk => by rw [← hρc k hk]; exact hall k hk, ?_⟩
  intro w' s' ρ' M' v x h1 hout hfr hlk hkept hM H' hrep
  simp only [okOut, Bool.and_eq_true, decide_eq_true_eq, List.all_eq_true] at hout
  obtain ⟨⟨hn1, hx1⟩, hlt1⟩ := hout
  have H1 := Sim.lessH H' hlk (by simpa using hlt1)
  have hrep := rep_cut _ _ hx1 hrep
  have hk0 : ∀ k r, k < ids.length → ρ' k = some r → (ρ'.ren id h1.length) k = some r := fun k r hk hr => by simp [Loc.ren, show k < h1.length by omega, hr]
  generalize hρ1 : Loc.ren ρ' id h1.length = ρ1 at H1 hrep
  rw [hρ1] at hk0
  have hk1 : ∀ k, k < ids.length → ρ1 k = ρ (σ k) := by
    intro k hk
    obtain ⟨r, hr⟩ := hall k hk
    have := hkept k r hk (by rw [← hρc k hk]; exact hr)
    rw [hr]
    exact hk0 k r hk this
  let ρ2 : Loc := ⟨fun i => if nid ≤ i ∧ i < nid + (h1.length - ids.length) then ρ1 (ids.length + (i - nid)) else ρ i, fun r => open Classical in if B' r then ρ.own r else (ρ1.own r).map σ⟩
  have hρ2 : ∀ k, k < h1.length → ρ2 (σ k) = ρ1 k := by
    intro k hk
    rcases Nat.lt_or_ge k ids.length with hlo | hhi
    · have := hσlt k hlo
      simp only [ρ2]
      rw [if_neg (by omega), hk1 k hlo]
    · simp only [ρ2]
      rw [hσhi k hhi, if_pos (by omega)]
      congr 1
      omega
  have heffs : ∀ i, (∃ k, k < h1.length ∧ i = σ k) ∨ ((∀ e ∈ effsOf σ 0 h1, e.1 ≠ i) ∧ ∀ k, k < h1.length → i ≠ σ k) := by
    intro i
    by_cases hc : ∃ k, k < h1.length ∧ i = σ k
    · exact .inl hc
    · refine .inr ⟨fun e he hh => ?_, fun k hk hh => hc ⟨k, hk, hh⟩⟩
      obtain ⟨j, h2, h3⟩ := effsOf_mem _ _ _ he
      exact hc ⟨j, h2, by rw [← hh, h3]; simp⟩
  have hsame : ∀ i, (∀ e ∈ effsOf σ 0 h1, e.1 ≠ i) → ρ2 i = ρ i := by
    intro i hi
    simp only [ρ2]
    split
    · rename_i hc
      obtain ⟨e, he, h3⟩ := mem_effsOf (σ := σ) h1 0 (ids.length + (i - nid)) (by omega)
      refine absurd ?_ (hi e he)
      rw [h3, hσhi _ (by omega)]
      omega
    · rfl
  have hle2 : ρ.le ρ2 := by
    intro i r hr
    simp only [ρ2]
    split
    · rename_i hc
      obtain ⟨e, he, h3⟩ := mem_effsOf (σ := σ) h1 0 (ids.length + (i - nid)) (by omega)
      have h4 : e.1 = i := by rw [h3, hσhi _ (by omega)]; omega
      have := hfr e he (by omega)
      rw [h4, hr] at this
      cases this
    · exact hr
  refine ⟨ρ2, M', ⟨hle2, hsame⟩, hM, ?_, (rep_ren hρ2 x v hx1).2 hrep⟩
  have hgi : ∀ k, k < h1.length → hget (applyEff hh (effsOf σ 0 h1)) (σ k) = renO σ (hget h1 k) := by
    intro k hk
    have := hget_effsOf (σ := σ) (n := h1.length) (fun i j _ _ => hinj i j) h1 0 k hh (by omega) hk
    rw [Nat.zero_add] at this
    exact this
  refine ⟨fun i => ?_, fun i hi => ?_, fun r i hr => ?_, H1.mem, fun b o hb => (H'.old b o (hBB b hb)).trans (H.old b o hb), H.below.trans (H1.below.mono hBB), fun b hb => Nat.lt_of_lt_of_le (H.size b hb) H1.below.size, H.good⟩
  · rcases heffs i with ⟨k, hk, rfl⟩ | ⟨hne, hnk⟩
    · rw [hgi k hk]
      have ho := H1.obj k
      by_cases hd : hget h1 k = .dead
      · rw [hd]; trivial
      · exact ho.ren hρ2 (fun r hr => by
          have hnb := (H1.own r k hr).1
          simp only [ρ2]
          rw [if_neg hnb, hr]; rfl) hk (by
          have : hget h1 k = h1[k] := by simp [hget, List.getD_eq_getElem?_getD, List.getElem?_eq_getElem hk]
          rw [this]
          exact hlt1 _ (List.getElem_mem hk))
    · rw [hget_applyEff _ _ _ hne]
      by_cases hd : hget hh i = .dead
      · rw [hd]; trivial
      · have hBr : ∀ r, ρ.own r = some i → B' r := fun r hr => ⟨(H.own r i hr).2, fun k hk hko => hnk k (by omega) (by rw [hr] at hko; injection hko)⟩
        exact (H.obj i).keep hle2 hM fun r hr => ⟨by simp only [ρ2]; rw [if_pos (hBr r hr)]; exact hr, H1.below.block r (hBr r hr), fun off hm => by rw [H'.old r off (hBr r hr)]; exact hm⟩
  · rcases heffs i with ⟨k, hk, rfl⟩ | ⟨hne, hnk⟩
    · obtain ⟨e, he, h2⟩ := mem_effsOf (σ := σ) h1 0 k hk
      have := (len_applyEff (effsOf σ 0 h1) hh).2 e he
      rw [h2, Nat.zero_add] at this
      omega
    · rw [hsame i hne]
      exact H.fresh i (Nat.le_trans (len_applyEff _ _).1 hi)
  · simp only [ρ2] at hr
    split at hr
    · exact ⟨(H.own r i hr).1, Nat.lt_of_lt_of_le (H.own r i hr).2 H1.below.size⟩
    · rename_i hnb
      cases ho : ρ1.own r with
      | none => rw [ho] at hr; cases hr
      | some k => exact ⟨fun hb => hnb (hBB r hb), (H1.own r k ho).2⟩
theorem sound_of_Tr {P : Program} {f : FuncId} {fn : Func} {c : Code} (hf : P.funcs[f]? = some fn) (hb : fn.body = some c) {ids : List Nat} {args : List AV} {h0 : List AObj} {x : AV} {h1 : List AObj}
    (h : Tr P ids.length c (fnBegins fn args h0) (fnEnds P fn x h1)) (hin : okIn ids.length args h0 = true) (hout : okOut ids.length x h1 = true) {hr : List AObj} {nid : Nat} (hids : okIds ids nid = true)
    (hhr : ∀ k o, h0[k]? = some o → hget hr (sig ids nid k) = renO (sig ids nid) o) : KSound P f (renL (sig ids nid) args) hr nid (ren (sig ids nid) x) (effsOf (sig ids nid) 0 h1) := by
  intro B w0 M0 hh w ρ M vs H hle hfr hargs
  obtain ⟨B', ρc, H0, hargs0, hlt, _, back⟩ := framed hin hids hhr H hle hargs
  refine (calls_of_Tr hf hb h (fun e s hq => ⟨hq.1, ?_⟩) H0 hlt hargs0).mono ?_
  · rcases hq.2.1 with h | h
    · exact ⟨_, h⟩
    · obtain ⟨y, hy, _⟩ := Option.map_eq_some_iff.1 h; exact ⟨y, hy⟩
  · rintro e w' ⟨e', s', v, ρ', M', rfl, hq, hk, hM, H', hv⟩
    have hrep : rep ρ' M' noG x v := by
      rcases hq.2.1 with hx | hx
      · exact hv x hx
      · obtain ⟨y, hy, rfl⟩ := Option.map_eq_some_iff.1 hx
        exact rep_coerceX H' (hv y hy)
    obtain ⟨ρ2, M2, k1, k2, k3, k4⟩ := back w' s'.h ρ' M' v x h1 hout hfr hq.2.2 hk hM H' hrep
    exact ⟨v, ρ2, M2, rfl, k1, k2, k3, k4⟩
end Go.Eng
