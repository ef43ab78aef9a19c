/- The engine, part 4: what an operation does to a state is what it does. -/
import Derived.Test.YtnfmnipckcidlaaDoorE3
import Derived.RangeFuncRecord
import Derived.OrdersIn
import Derived.TacticsIn
set_option linter.unusedVariables false
set_option linter.unusedSimpArgs false
namespace Go.Eng
open Go.RowKit (Below)

/-- The places are the old ones, but for those of the objects that are made. -/
def Loc.only (ρ ρ' : Loc) (effs : Eff) : Prop := ρ.le ρ' ∧ ∀ id, (∀ e ∈ effs, e.1 ≠ id) → ρ' id = ρ id
theorem Loc.only_refl (ρ : Loc) (effs : Eff) : ρ.only ρ effs := ⟨Loc.le_refl _, fun _ _ => rfl⟩
theorem Loc.only_put {ρ : Loc} {id : Nat} {x : RL} {r : Nat} (h : ρ id = none) (o : AObj) (effs : Eff) (he : (id, o) ∈ effs) : ρ.only (ρ.put id x r) effs := ⟨Loc.le_put h, fun i hi => by
  have := hi (id, o) he
  exact if_neg fun e => this e.symm⟩
theorem Loc.only_put0 {ρ : Loc} {id : Nat} {x : RL} (h : ρ id = none) (o : AObj) (effs : Eff) (he : (id, o) ∈ effs) : ρ.only (ρ.put0 id x) effs := ⟨Loc.le_put0 h, fun i hi => by
  have := hi (id, o) he
  exact if_neg fun e => this e.symm⟩
theorem Loc.only_more {ρ ρ' : Loc} {effs effs' : Eff} (h : ρ.only ρ' effs) (hs : ∀ e ∈ effs, e ∈ effs') : ρ.only ρ' effs' := ⟨h.1, fun i hi => h.2 i fun e he => hi e (hs e he)⟩
/-- What is told of a slice of its own that nobody writes any more. -/
theorem okVec.repC {ρ : Loc} {M : Mem} {w : World} {id : Nat} {c : Coll} {hv : Value} (h : okVec ρ M w id true c hv) : repC M (DEP + 1) c hv := by
  rcases h with ⟨rfl, h0⟩ | ⟨r, cap, vs, t, rfl, _, _, h6, h7, _, h9, _, h12⟩
  · exact ⟨none, 0, by rw [h0], by omega, fun h => by omega⟩
  · refine ⟨some ⟨r, 0, none⟩, cap, rfl, h7, fun _ => ⟨r, 0, rfl, fun i hi j x hx => ?_⟩⟩
    obtain ⟨u, hu, hr⟩ := h9 i hi j x hx
    have hj : j < c.esz := by rw [← c.get_length i]; exact (List.getElem?_eq_some_iff.1 hx).1
    have hlt : i * c.esz + j < c.len * c.esz := by
      have : (i + 1) * c.esz ≤ c.len * c.esz := Nat.mul_le_mul_right _ hi
      rw [Nat.add_mul] at this; omega
    exact ⟨u, by rw [Nat.zero_add]; exact h12 rfl _ u hlt hu, hr⟩
/-- The function f, called at these arguments over these objects, comes to x and turns the objects so. -/
def KSound (P : Program) (f : FuncId) (args : List AV) (hr : List AObj) (nid : Nat) (x : AV) (effs : Eff) : Prop :=
  ∀ (B : Nat → Prop) (w0 : World) (M0 : Mem) (h : List AObj) (w : World) (ρ : Loc) (M : Mem) (vs : List Value), SimH B w0 M0 h w ρ M → (∀ id, hget hr id ≠ .dead → hget h id = hget hr id) →
    (∀ p ∈ effs, nid ≤ p.1 → ρ p.1 = none) → repL ρ M noG args vs →
    Calls P f ⟨vs⟩ w fun e w' => ∃ v ρ' M', e = .returned v ∧ ρ.only ρ' effs ∧ M.le M' ∧ SimH B w0 M0 (applyEff h effs) w' ρ' M' ∧ rep ρ' M' noG x v
def KPSound (P : Program) (f : FuncId) (args : List AV) (b : Bool) (pv : Value) : Prop :=
  ∀ (B : Nat → Prop) (w0 : World) (M0 : Mem) (h : List AObj) (w : World) (ρ : Loc) (M : Mem) (vs : List Value), SimH B w0 M0 h w ρ M → repL ρ M noG args vs →
    Calls P f ⟨vs⟩ w fun e w' => (e = if b then .returned (.tuple #[]) else .panicked [{ v := pv, recovered := false }]) ∧ ∃ M', M.le M' ∧ SimH B w0 M0 h w' ρ M'
/-- A round of the range over a function that yield, the first argument, stands for. -/
def YSound (P : Program) (args : List AV) (hr : List AObj) (nid : Nat) (x : AV) (effs : Eff) : Prop :=
  ∀ (B : Nat → Prop) (w0 : World) (M0 : Mem) (h : List AObj) (w : World) (ρ : Loc) (M : Mem) (l : Nat) (vs : List Value), SimH B w0 M0 h w ρ M → (∀ id, hget hr id ≠ .dead → hget h id = hget hr id) →
    (∀ p ∈ effs, nid ≤ p.1 → ρ p.1 = none) → repL ρ M noG args (.func (.yield l) #[] #[] :: vs) →
    ∃ fn tmps asg body, (Instr.yield l ⟨vs⟩).run P w = .ok (.round l fn tmps asg body) w ∧
      RoundIn Fence.wide 0 P l fn tmps asg body w fun e w' => ∃ v ρ' M', e = .returned v ∧ ρ.only ρ' effs ∧ M.le M' ∧ SimH B w0 M0 (applyEff h effs) w' ρ' M' ∧ rep ρ' M' noG x v
def YBOk (P : Program) (args : List AV) (hr : List AObj) (nid : Nat) : YB → Prop
  | .one (x, e, n) => (∀ p ∈ n, p) → YSound P args hr nid x e
  | .two b (x1, e1, n1) (x2, e2, n2) => (b = true → (∀ p ∈ n1, p) → YSound P args hr nid x1 e1) ∧ (b = false → (∀ p ∈ n2, p) → YSound P args hr nid x2 e2)
structure KOk (E : Env) : Prop where
  yOk : ∀ args h nid r, E.Y args h nid = some r → YBOk E.P args h nid r
  pEnters : ∀ f args r, E.KP f args = some r → ∀ (vs : Array Value) (w : World), (callFunc f vs).run E.P w = .ok (.enter f vs) w
  pSound : ∀ f args b pv, E.KP f args = some (b, pv) → KPSound E.P f args b pv
  bEnters : ∀ f args h nid r, E.KB f args h nid = some r → ∀ (vs : Array Value) (w : World), (callFunc f vs).run E.P w = .ok (.enter f vs) w
  bSound : ∀ f args h nid b x1 e1 n1 x2 e2 n2, E.KB f args h nid = some (b, (x1, e1, n1), (x2, e2, n2)) → (b = true → (∀ p ∈ n1, p) → KSound E.P f args h nid x1 e1) ∧ (b = false → (∀ p ∈ n2, p) → KSound E.P f args h nid x2 e2)
  enters : ∀ f args h nid r, E.K f args h nid = some r → ∀ (vs : Array Value) (w : World), (callFunc f vs).run E.P w = .ok (.enter f vs) w
  sound : ∀ f args h nid x effs need, E.K f args h nid = some (x, effs, need) → (∀ p ∈ need, p) → KSound E.P f args h nid x effs

section
variable {E : Env} {B : Nat → Prop} {w0 w : World} {M0 M : Mem} {h hr : List AObj} {ρ : Loc} {t : List AV} {a : Act}

theorem rep_opd (ht : ∀ i, rep ρ M noG (t.getD i .unk) (a.eval (.tmp i))) (x : Operand) : rep ρ M noG (opd t x) (a.eval x) := by
  cases x with
  | tmp i => exact ht i
  | const v => exact rep_avOf ρ M noG v
  | global g => simp [opd, rep]
  | func f => simp only [opd, rep, Act.eval]; exact ⟨[], rfl, by simp [repL]⟩
theorem repL_opd (ht : ∀ i, rep ρ M noG (t.getD i .unk) (a.eval (.tmp i))) : ∀ (xs : List Operand), repL ρ M noG (xs.map (opd t)) (xs.map a.eval)
  | [] => by simp [repL]
  | x :: xs => by simp only [List.map_cons, repL]; exact ⟨rep_opd ht x, repL_opd ht xs⟩

theorem repC_vec (H : SimH B w0 M0 h w ρ M) (hle : ∀ id, hget hr id ≠ .dead → hget h id = hget hr id) {x : AV} {v : Value} (hv : rep ρ M noG x v) : rep ρ M noG (coerce hr x) v := by
  unfold coerce
  split
  · rename_i id
    split
    · rename_i c hc
      have := H.obj id
      rw [hle id (by rw [hc]; simp), hc] at this
      obtain ⟨hv', h1, h2⟩ := this
      simp only [rep] at hv ⊢
      have hv := hv.2
      rw [h1] at hv
      injection hv with hv
      injection hv with hv
      subst hv
      exact h2.repC
    · exact hv
  · exact hv
theorem repL_coerce (H : SimH B w0 M0 h w ρ M) (hle : ∀ id, hget hr id ≠ .dead → hget h id = hget hr id) : ∀ {xs : List AV} {vs : List Value}, repL ρ M noG xs vs → repL ρ M noG (xs.map (coerce hr)) vs
  | [], [], _ => by simp [repL]
  | x :: xs, v :: vs, h => by simp only [repL] at h; simp only [List.map_cons, repL]; exact ⟨repC_vec H hle h.1, repL_coerce H hle h.2⟩
  | [], _ :: _, h => by simp [repL] at h
  | _ :: _, [], h => by simp [repL] at h

theorem one_cells {x : AV} {v : Value} (hx : x.one = true) (hv : rep ρ M noG x v) : v.oneCell' = true ∧ v.cells = #[v] ∧ x.cells = [x] := by
  cases x <;> simp [AV.one] at hx <;> simp only [rep] at hv
  all_goals first
    | (subst hv; exact ⟨rfl, rfl, rfl⟩)
    | (obtain ⟨r, _, rfl⟩ := hv; exact ⟨rfl, rfl, rfl⟩)
    | (obtain ⟨_, _, b, o, rfl, _⟩ := hv; exact ⟨rfl, rfl, rfl⟩)
    | (obtain ⟨_, _, _, _, _, _, rfl⟩ := hv; exact ⟨rfl, rfl, rfl⟩)
    | (obtain ⟨_, _, _, _, _, rfl, _⟩ := hv; exact ⟨rfl, rfl, rfl⟩)
    | (obtain ⟨a, cap, rfl, _⟩ := hv; exact ⟨rfl, rfl, rfl⟩)
    | (obtain ⟨⟨b, n, c, rfl⟩, _⟩ := hv; exact ⟨rfl, rfl, rfl⟩)
    | (obtain ⟨vs, rfl, _⟩ := hv; exact ⟨rfl, rfl, rfl⟩)
theorem one_cellsL {x : AV} {v : Value} (hx : x.cells.all AV.one = true) (hv : rep ρ M noG x v) : repL ρ M noG x.cells v.cells.toList ∧ ∀ u ∈ v.cells.toList, u.oneCell' = true := by
  have key : ∀ (xs : List AV) (vs : List Value), xs.all AV.one = true → repL ρ M noG xs vs → ∀ u ∈ vs, u.oneCell' = true := by
    intro xs
    induction xs with
    | nil => intro vs _ h; cases vs <;> simp [repL] at h ⊢
    | cons x xs ih =>
      intro vs h1 h2
      cases vs with
      | nil => simp
      | cons v vs =>
        simp only [repL] at h2
        simp only [List.all_cons, Bool.and_eq_true] at h1
        intro u hu
        rcases List.mem_cons.1 hu with rfl | hu
        · exact (one_cells h1.1 h2.1).1
        · exact ih vs h1.2 h2.2 u hu
  cases x
  case agg cs =>
    simp only [rep] at hv
    obtain ⟨vs, rfl, hvs⟩ := hv
    exact ⟨hvs, key _ _ hx hvs⟩
  all_goals
    have hx' := hx
    simp only [AV.cells, List.all_cons, List.all_nil, Bool.and_true] at hx'
    obtain ⟨h1, h2, h3⟩ := one_cells hx' hv
    rw [h2]
    simp only [repL, AV.cells, List.mem_singleton, forall_eq, and_true]
    exact ⟨hv, h1⟩
end

/-- What an operation's run must show. -/
def Does (B : Nat → Prop) (w0 : World) (M0 : Mem) (P : Program) (o : Oper) (a : Act) (w : World) (h : List AObj) (ρ : Loc) (M : Mem) (x : AV) (effs : Eff) : Prop :=
  ∀ (next : Act → World → Prop) (Q : Exit → Act → World → Prop),
    (∀ v w' ρ' M', ρ.only ρ' effs → M.le M' → SimH B w0 M0 (applyEff h effs) w' ρ' M' → rep ρ' M' noG x v → next (a.put o.dst v) w') → o.wp P a w next Q

section
variable {P : Program} {B : Nat → Prop} {w0 w : World} {M0 M : Mem} {h : List AObj} {ρ : Loc} {a : Act} {o : Oper} {x : AV} {v : Value}
theorem does_pure (H : SimH B w0 M0 h w ρ M) (hrun : (execOp a.eval o).run P w = .ok (.value v) w) (hv : rep ρ M noG x v) : Does B w0 M0 P o a w h ρ M x [] := by
  intro next Q hnext
  unfold Oper.wp
  rw [hrun]
  exact hnext v w ρ M (Loc.only_refl _ _) (Mem.le_refl _) H hv
theorem does_value {w' : World} {ρ' : Loc} {M' : Mem} {effs : Eff} (hrun : (execOp a.eval o).run P w = .ok (.value v) w') (hρ : ρ.only ρ' effs) (hM : M.le M') (H : SimH B w0 M0 (applyEff h effs) w' ρ' M') (hv : rep ρ' M' noG x v) : Does B w0 M0 P o a w h ρ M x effs := by
  intro next Q hnext
  unfold Oper.wp
  rw [hrun]
  exact hnext v w' ρ' M' hρ hM H hv
theorem does_skip {w' : World} {ρ' : Loc} {M' : Mem} {effs : Eff} (hrun : (execOp a.eval o).run P w = .ok .skip w') (hρ : ρ.only ρ' effs) (hM : M.le M') (H : SimH B w0 M0 (applyEff h effs) w' ρ' M') : Does B w0 M0 P o a w h ρ M .unk effs := by
  intro next Q hnext
  unfold Oper.wp
  rw [hrun]
  exact hnext undef w' ρ' M' hρ hM H (by simp [rep])
end

section
variable {P : Program} {B : Nat → Prop} {w0 w : World} {M0 M : Mem} {h hr : List AObj} {ρ : Loc}

/-! ### Loads -/
theorem load_ptr (H : SimH B w0 M0 h w ρ M) {t : TypeId} {cs : List AV} {ct : TypeId} {id off : Nat} {x : AV} {v : Value} (ho : hget h id = .cells ct cs) (hx : loadFrom P t cs off = some x) (hp : rep ρ M noG (.ptr id off) v) :
    ∃ u, (Instr.loadAt t v).run P w = .ok u w ∧ rep ρ M noG x u := by
  have := H.obj id
  rw [ho] at this
  obtain ⟨r, vs, h1, _, h2, h3, _⟩ := this
  simp only [rep] at hp
  obtain ⟨r', h4, rfl⟩ := hp
  rw [h1] at h4
  injection h4 with h4
  injection h4 with h4
  subst h4
  obtain ⟨u, hu, hr⟩ := run_loadVar_of (w := w) (b := r) (R := rep ρ M noG) hx 0 (fun j y hy => by
    obtain ⟨u, hu, hr⟩ := repL_get h3 j y hy
    exact ⟨u, by rw [cell_of_block h2]; simpa using hu, hr⟩) (fun ys us hl hh => by
      simp only [rep]
      refine ⟨us, rfl, ?_⟩
      clear hx
      induction ys generalizing us with
      | nil => cases us <;> simp [repL] at hl ⊢
      | cons y ys ih =>
        cases us with
        | nil => simp at hl
        | cons u us =>
          simp only [repL]
          exact ⟨hh 0 y u rfl rfl, ih us (by simpa using hl) fun j y' u' h1 h2 => hh (j + 1) y' u' (by simpa using h1) (by simpa using h2)⟩)
  refine ⟨u, ?_, hr⟩
  simp only [Instr.loadAt, Instr.sureAddr]
  simpa using hu
theorem load_ep (H : SimH B w0 M0 h w ρ M) {t : TypeId} {c : Coll} {i off : Nat} {x : AV} {v : Value} (hx : loadFrom P t (c.get i) off = some x) (hp : rep ρ M noG (.ep c i off) v) :
    ∃ u, (Instr.loadAt t v).run P w = .ok u w ∧ rep ρ M noG x u := by
  simp only [rep] at hp
  obtain ⟨hi, _, b, o, rfl, hrd⟩ := hp
  obtain ⟨u, hu, hr⟩ := run_loadVar_of (w := w) (b := b) (R := rep ρ M noG) hx (o + i * c.esz) (fun j y hy => by
    obtain ⟨u, hu, hm⟩ := hrd i hi j y hy
    refine ⟨u, H.mem _ _ _ hu, ?_⟩
    cases y <;> simp only [sc] at hm <;> simp only [rep] <;> first | exact hm | exact repC_up _ _ _ hm | exact hm.elim) (fun ys us hl hh => by
      simp only [rep]
      refine ⟨us, rfl, ?_⟩
      clear hx
      induction ys generalizing us with
      | nil => cases us <;> simp [repL] at hl ⊢
      | cons y ys ih =>
        cases us with
        | nil => simp at hl
        | cons u us =>
          simp only [repL]
          exact ⟨hh 0 y u rfl rfl, ih us (by simpa using hl) fun j y' u' h1 h2 => hh (j + 1) y' u' (by simpa using h1) (by simpa using h2)⟩)
  refine ⟨u, ?_, hr⟩
  simp only [Instr.loadAt, Instr.sureAddr]
  simpa using hu
/-- Of an element of a slice of its own. -/
theorem load_evp (H : SimH B w0 M0 h w ρ M) {t : TypeId} {f : Bool} {c : Coll} {id i off : Nat} {x : AV} {v : Value} (ho : hget h id = .vec f c) (hx : loadFrom P t (c.get i) off = some x) (hp : rep ρ M noG (.evp id c.esz i off) v) :
    ∃ u, (Instr.loadAt t v).run P w = .ok u w ∧ rep ρ M noG x u := by
  have hobj := H.obj id
  rw [ho] at hobj
  obtain ⟨hv, g1, g2⟩ := hobj
  simp only [rep] at hp
  obtain ⟨_, r, n, cap, h1, hi, rfl⟩ := hp
  rw [g1] at h1
  injection h1 with h1
  injection h1 with h1
  subst h1
  rcases g2 with ⟨g2, _⟩ | ⟨r', cap', vs, ct, e, k2, k3, k4, k5, k6, k7, _⟩
  · cases g2
  injection e with e1 e2 e3
  injection e1 with e1
  injection e1 with e1
  subst e1; subst e2; subst e3
  obtain ⟨u, hu, hr⟩ := run_loadVar_of (w := w) (b := r) (R := rep ρ M noG) hx (i * c.esz) (fun j y hy => by
    obtain ⟨u, hu, hm⟩ := k7 i hi j y hy
    refine ⟨u, by rw [cell_of_block k3]; exact hu, ?_⟩
    cases y <;> simp only [repE, sc] at hm <;> simp only [rep] <;> first | exact hm | exact repC_up _ _ _ hm | exact hm.elim) (fun ys us hl hh => by
      simp only [rep]
      refine ⟨us, rfl, ?_⟩
      clear hx
      induction ys generalizing us with
      | nil => cases us <;> simp [repL] at hl ⊢
      | cons y ys ih =>
        cases us with
        | nil => simp at hl
        | cons u us =>
          simp only [repL]
          exact ⟨hh 0 y u rfl rfl, ih us (by simpa using hl) fun j y' u' h1 h2 => hh (j + 1) y' u' (by simpa using h1) (by simpa using h2)⟩)
  refine ⟨u, ?_, hr⟩
  simp only [Instr.loadAt, Instr.sureAddr]
  simpa using hu
end
end Go.Eng
