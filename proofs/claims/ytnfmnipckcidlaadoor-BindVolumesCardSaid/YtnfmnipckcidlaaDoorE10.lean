/- The engine, part 9: regions that draw their order. -/
import Derived.Test.YtnfmnipckcidlaaDoorE9
set_option linter.unusedVariables false
set_option linter.unusedSimpArgs false
namespace Go.Eng
open Go.RowKit (Below)
variable {D : List Deferred} {ro : Option Nat}

/-- What an operation puts into its slot, and what it turns, out of what it looks at. -/
def stepX (E : Env) (ops : List Oper) (o : Oper) (t : List AV) (hr : List AObj) (nid : Nat) : Option (List Prop × AV × Eff) :=
  match o.guard with
  | none => match isPick o.op with
    | some (c, x, y) => match evPick ops t [] c x y with
      | some z => some ([], ungrd [] z, [])
      | none => none
    | none => match evOp E (t.map (ungrd [])) hr nid o with
      | some (x, effs, need) => some (need, ungrd [] x, effs)
      | none => none
  | some g => if (ops[g.1]?).bind (·.dst) == o.dst then none else match isPick o.op with
    | some (c, x, y) => match evPick ops t (tagsOf ops t 8 g) c x y with
      | some z => some ([], .grd g.1 g.2 z, [])
      | none => none
    | none => match evOp E (t.map (ungrd (tagsOf ops t 8 g))) hr nid o with
      | some (x, [], need) => some (need.map fun p => (condP ops t 8 g → p), .grd g.1 g.2 x, [])
      | _ => none

section
variable {E : Env} {B : Nat → Prop} {w0 w : World} {M0 M : Mem} {ρ : Loc} {a : Act} {ops : List Oper} {h hr : List AObj} {t : List AV}
theorem stepX_sound (hK : KOk E) {o : Oper} {nid : Nat} {p : List Prop} {X : AV} {effs : Eff} (he : stepX E ops o t hr nid = some (p, X, effs)) (hp : ∀ q ∈ p, q) (H : SimH B w0 M0 h w ρ M)
    (hle : ∀ id, hget hr id ≠ .dead → hget h id = hget hr id) (hfr : ∀ q ∈ effs, nid ≤ q.1 → ρ q.1 = none) (T : SimT D ρ M (yG ops.toArray a) t a)
    (next : Act → World → Prop) (Q : Exit → Act → World → Prop) (hnext : ∀ v w' ρ' M', ρ.only ρ' effs → M.le M' → SimH B w0 M0 (applyEff h effs) w' ρ' M' → repS ρ' M' (yG ops.toArray (a.put o.dst v)) X v → next (a.put o.dst v) w') :
    if Region.wanted o (yielded ops.toArray a.tmps) then o.wpIn (wR ro) 0 E.P a w next Q else next (a.put o.dst undef) w := by
  have htl : ∀ tags : List (Nat × Bool), (∀ j w, (j, w) ∈ tags → yG ops.toArray a j w) → ∀ i, rep ρ M noG ((t.map (ungrd tags)).getD i .unk) (a.eval (.tmp i)) := by
    intro tags ht i
    rw [map_getD _ rfl]
    exact rep_ungrd ht (T.at_ i)
  unfold stepX at he
  split at he
  · rename_i hg
    have hw : Region.wanted o (yielded ops.toArray a.tmps) = true := by simp [Region.wanted, hg]
    rw [if_pos hw]
    split at he
    · rename_i c x y hpick
      split at he
      · rename_i z hz
        simp only [Option.some.injEq, Prod.mk.injEq] at he
        obtain ⟨rfl, rfl, rfl⟩ := he
        obtain ⟨b, hc, hr⟩ := evPick_run T (fun _ _ h => by cases h) hz
        refine wpIn_of (isPick_notDefer hpick) ?_
        unfold Oper.wp
        rw [pick_exec (isPick_inv hpick) hc]
        exact hnext _ w ρ M (Loc.only_refl _ _) (Mem.le_refl _) H (repS_clean hr)
      · cases he
    · split at he
      · rename_i x effs' need hev
        simp only [Option.some.injEq, Prod.mk.injEq] at he
        obtain ⟨rfl, rfl, rfl⟩ := he
        refine wpIn_of (evOp_notDefer hev) (evOp_sound hK hev hp H hle hfr (htl [] (fun _ _ h => by cases h)) next Q ?_)
        intro v w' ρ' M' h1 h2 h3 h4
        exact hnext _ w' ρ' M' h1 h2 h3 (repS_clean h4)
      · cases he
  · rename_i g hg
    split at he
    · cases he
    · rename_i hdst
      have hG : ∀ v, yG ops.toArray (a.put o.dst v) g.1 g.2 ↔ yG ops.toArray a g.1 g.2 := by
        intro v
        cases hd : o.dst with
        | none => exact Iff.rfl
        | some d =>
          have : (ops.toArray[g.1]?).bind (·.dst) ≠ some d := by rw [hd] at hdst; simpa using hdst
          simp only [yG, yielded_put this]
      by_cases hwant : yG ops.toArray a g.1 g.2
      · have hw : Region.wanted o (yielded ops.toArray a.tmps) = true := by
          simp only [Region.wanted, hg]
          simpa [yG] using hwant
        rw [if_pos hw]
        have htags := tagsOf_hold T 8 g hwant
        split at he
        · rename_i c x y hpick
          split at he
          · rename_i z hz
            simp only [Option.some.injEq, Prod.mk.injEq] at he
            obtain ⟨rfl, rfl, rfl⟩ := he
            obtain ⟨b, hc, hr⟩ := evPick_run T htags hz
            refine wpIn_of (isPick_notDefer hpick) ?_
            unfold Oper.wp
            rw [pick_exec (isPick_inv hpick) hc]
            exact hnext _ w ρ M (Loc.only_refl _ _) (Mem.le_refl _) H (.inl ⟨(hG _).2 hwant, hr⟩)
          · cases he
        · split at he
          · rename_i x need hev
            simp only [Option.some.injEq, Prod.mk.injEq] at he
            obtain ⟨rfl, rfl, rfl⟩ := he
            refine wpIn_of (evOp_notDefer hev) (evOp_sound hK hev (fun q hq => hp _ (List.mem_map_of_mem hq) (condP_hold T 8 g hwant)) H hle hfr (htl _ htags) next Q ?_)
            intro v w' ρ' M' h1 h2 h3 h4
            exact hnext _ w' ρ' M' h1 h2 h3 (.inl ⟨(hG _).2 hwant, h4⟩)
          · cases he
      · have hw : ¬ Region.wanted o (yielded ops.toArray a.tmps) = true := by
          simp only [Region.wanted, hg]
          simpa [yG] using hwant
        rw [if_neg hw]
        split at he
        · split at he
          · simp only [Option.some.injEq, Prod.mk.injEq] at he
            obtain ⟨rfl, rfl, rfl⟩ := he
            exact hnext _ w ρ M (Loc.only_refl _ _) (Mem.le_refl _) H (.inr ⟨fun h => hwant ((hG _).1 h), rfl⟩)
          · cases he
        · split at he
          · simp only [Option.some.injEq, Prod.mk.injEq] at he
            obtain ⟨rfl, rfl, rfl⟩ := he
            exact hnext _ w ρ M (Loc.only_refl _ _) (Mem.le_refl _) H (.inr ⟨fun h => hwant ((hG _).1 h), rfl⟩)
          · cases he
end

/-! ### What an operation looks at -/
def tmpsOf (xs : List Operand) : List Nat := xs.filterMap fun | .tmp d => some d | _ => none
/-- The slots of the guards that an operation hangs on. -/
def guardSlots (ops : List Oper) : Nat → Option (Nat × Bool) → List Nat
  | 0, _ => []
  | _, none => []
  | n + 1, some (j, _) => match ops[j]? with
    | some o => o.dst.toList ++ guardSlots ops n o.guard
    | none => []
def accOf (ops : List Oper) (o : Oper) : List Nat := tmpsOf o.op.operands.toList ++ guardSlots ops 8 o.guard
mutual
def idsOf : AV → List Nat
  | .ptr id _ => [id]
  | .vec id => [id]
  | .evp id _ _ _ => [id]
  | .vsub id _ _ _ => [id]
  | .yld id => [id]
  | .map id => [id]
  | .fn _ cs => idsOfL cs
  | .grd _ _ x => idsOf x
  | _ => []
def idsOfL : List AV → List Nat
  | [] => []
  | x :: xs => idsOf x ++ idsOfL xs
end
def keepT (acc : List Nat) (t : List AV) : List AV := t.zipIdx.map fun x => if acc.contains x.2 then x.1 else .unk
def keepH (ids : List Nat) (h : List AObj) : List AObj := h.zipIdx.map fun x => if ids.contains x.2 then x.1 else .dead
structure Rec where
  dst : Option Tmp
  X : AV
  effs : Eff
  p : List Prop
  acc : List Nat
  ids : List Nat
  nid : Nat
def setT (t : List AV) (dst : Option Tmp) (X : AV) : List AV := match dst with
  | some d => t.set d X
  | none => t
def recOf (E : Env) (ops : List Oper) (o : Oper) (s : St) : Option Rec :=
  let acc := accOf ops o
  let t := keepT acc s.t
  let ids := idsOfL (acc.map fun d => s.t.getD d .unk)
  match stepX E ops o t (keepH ids s.h) s.h.length with
  | some (p, X, effs) => some ⟨o.dst, X, effs, p, acc, ids, s.h.length⟩
  | none => none
def runX (E : Env) (ops : List Oper) : List Oper → St → Option (List Rec × St)
  | [], s => some ([], s)
  | o :: r, s => match recOf E ops o s with
    | some R => match runX E ops r ⟨setT s.t R.dst R.X, applyEff s.h R.effs⟩ with
      | some (Rs, s') => some (R :: Rs, s')
      | none => none
    | none => none
/-- May the two come in either order? -/
def indep (x y : Rec) : Bool :=
  (match x.dst with | some d => !y.acc.contains d && y.dst != some d | none => true) && (match y.dst with | some d => !x.acc.contains d | none => true) &&
  (x.effs.all fun e => !y.ids.contains e.1 && y.effs.all fun f => f.1 != e.1) && (y.effs.all fun e => !x.ids.contains e.1)
/-- What must come ahead of each operation, as bits. -/
def before : List Oper → List Nat → List Nat
  | [], acc => acc
  | o :: r, acc => before r (acc ++ [o.after.toList.foldl (fun s e => if Region.binds .any e then s ||| 2 ^ e.on ||| acc.getD e.on 0 else s) 0])
def pairsOk (Rs : List Rec) (bs : List Nat) : Bool :=
  (List.range Rs.length).all fun j => (List.range j).all fun i => (bs.getD j 0).testBit i || (match Rs[i]?, Rs[j]? with | some x, some y => indep x y | _, _ => false)
def edgesBack (ops : List Oper) : Bool := ops.zipIdx.all fun o => o.1.after.toList.all fun e => !Region.binds .any e || decide (e.on < o.2)
/-- What hangs on a guard comes behind it, and nothing else writes the guard's slot. -/
def grdOk (Rs : List Rec) (bs : List Nat) : Bool :=
  (List.range Rs.length).all fun k => match Rs[k]? with
    | some R => match R.X with
      | .grd j _ _ => (bs.getD k 0).testBit j && (List.range Rs.length).all fun i => i == j || (match Rs[i]?, Rs[j]? with | some x, some y => x.dst != y.dst || x.dst == none | _, _ => false)
      | _ => true
    | none => true
def evDraw (E : Env) (ops : List Oper) (s : St) : Option (List Prop × St) :=
  match runX E ops ops (cleanS s) with
  | some (Rs, s') => if E.P.follows .mixedOrders && edgesBack ops && pairsOk Rs (before ops []) && grdOk Rs (before ops []) then some ((Rs.map (·.p)).flatten, cleanS s') else none
  | none => none

/-- The state when those of S have been carried out. -/
def stOf (S : Nat → Bool) : List Rec → Nat → St → St
  | [], _, s => s
  | R :: Rs, k, s => stOf S Rs (k + 1) (if S k then ⟨setT s.t R.dst R.X, applyEff s.h R.effs⟩ else s)
theorem stOf_append (S : Nat → Bool) : ∀ (A C : List Rec) (k : Nat) (s : St), stOf S (A ++ C) k s = stOf S C (k + A.length) (stOf S A k s)
  | [], C, k, s => by simp [stOf]
  | R :: A, C, k, s => by
    simp only [List.cons_append, stOf, List.length_cons]
    rw [stOf_append S A C (k + 1), show k + 1 + A.length = k + (A.length + 1) from by omega]
theorem stOf_congr {S S' : Nat → Bool} : ∀ (Rs : List Rec) (k : Nat) (s : St), (∀ j, k ≤ j → j < k + Rs.length → S j = S' j) → stOf S Rs k s = stOf S' Rs k s
  | [], _, _, _ => rfl
  | R :: Rs, k, s, h => by
    simp only [stOf]
    rw [h k (Nat.le_refl _) (by simp), stOf_congr Rs (k + 1) _ fun j h1 h2 => h j (by omega) (by simp at h2 ⊢; omega)]
theorem stOf_len (S : Nat → Bool) : ∀ (Rs : List Rec) (k : Nat) (s : St), (stOf S Rs k s).t.length = s.t.length
  | [], _, _ => rfl
  | R :: Rs, k, s => by
    simp only [stOf]
    rw [stOf_len S Rs (k + 1)]
    split
    · unfold setT; split <;> simp
    · rfl
theorem hget_applyEff (effs : Eff) : ∀ (h : List AObj) (id : Nat), (∀ e ∈ effs, e.1 ≠ id) → hget (applyEff h effs) id = hget h id := by
  induction effs with
  | nil => intro h id _; rfl
  | cons e effs ih =>
    intro h id hne
    show hget (applyEff (hset h e.1 e.2) effs) id = _
    rw [ih _ id (fun f hf => hne f (List.mem_cons_of_mem _ hf)), hget_hset, if_neg (hne e List.mem_cons_self)]
theorem hget_applyEff_congr (effs : Eff) : ∀ (h h' : List AObj) (id : Nat), hget h id = hget h' id → hget (applyEff h effs) id = hget (applyEff h' effs) id := by
  induction effs with
  | nil => intro h h' id hh; exact hh
  | cons e effs ih =>
    intro h h' id hh
    refine ih _ _ id ?_
    rw [hget_hset, hget_hset, hh]
/-- Two sets that agree on the writers of a slot. -/
theorem stOf_slot {S S' : Nat → Bool} {d : Nat} : ∀ (Rs : List Rec) (k : Nat) (s s' : St), (∀ j R, Rs[j]? = some R → R.dst = some d → S (k + j) = S' (k + j)) → s.t.length = s'.t.length → s.t.getD d .unk = s'.t.getD d .unk →
    (stOf S Rs k s).t.getD d .unk = (stOf S' Rs k s').t.getD d .unk
  | [], _, _, _, _, _, h => h
  | R :: Rs, k, s, s', hS, hl, h => by
    simp only [stOf]
    have hlen : ∀ (b : Bool) (s : St), (if b then (⟨setT s.t R.dst R.X, applyEff s.h R.effs⟩ : St) else s).t.length = s.t.length := by
      intro b s; cases b
      · rfl
      · simp only [if_true]; unfold setT; split <;> simp
    refine stOf_slot Rs (k + 1) _ _ (fun j R' hj hd => by rw [show k + 1 + j = k + (j + 1) from by omega]; exact hS (j + 1) R' (by simpa using hj) hd) (by rw [hlen, hlen, hl]) ?_
    by_cases hd : R.dst = some d
    · have := hS 0 R rfl hd
      rw [Nat.add_zero] at this
      rw [this]
      split
      · simp only [setT, hd]; rw [set_getD, set_getD, hl, h]
      · exact h
    · have key : ∀ (b : Bool) (s : St), (if b then (⟨setT s.t R.dst R.X, applyEff s.h R.effs⟩ : St) else s).t.getD d .unk = s.t.getD d .unk := by
        intro b s; cases b
        · rfl
        · simp only [if_true]
          unfold setT
          split
          · rename_i e he
            rw [set_getD, if_neg]
            rintro ⟨rfl, _⟩
            exact hd he
          · rfl
      rw [key, key, h]
/-- Two sets that agree on what turns an object. -/
theorem stOf_obj {S S' : Nat → Bool} {id : Nat} : ∀ (Rs : List Rec) (k : Nat) (s s' : St), (∀ j R, Rs[j]? = some R → (∃ e ∈ R.effs, e.1 = id) → S (k + j) = S' (k + j)) → hget s.h id = hget s'.h id →
    hget (stOf S Rs k s).h id = hget (stOf S' Rs k s').h id
  | [], _, _, _, _, h => h
  | R :: Rs, k, s, s', hS, h => by
    simp only [stOf]
    refine stOf_obj Rs (k + 1) _ _ (fun j R' hj hd => by rw [show k + 1 + j = k + (j + 1) from by omega]; exact hS (j + 1) R' (by simpa using hj) hd) ?_
    by_cases hd : ∃ e ∈ R.effs, e.1 = id
    · have := hS 0 R rfl hd
      rw [Nat.add_zero] at this
      rw [this]
      split
      · exact hget_applyEff_congr _ _ _ _ h
      · exact h
    · have key : ∀ (b : Bool) (s : St), hget (if b then (⟨setT s.t R.dst R.X, applyEff s.h R.effs⟩ : St) else s).h id = hget s.h id := by
        intro b s; cases b
        · rfl
        · exact hget_applyEff _ _ _ fun e he hh => hd ⟨e, he, hh⟩
      rw [key, key, h]
theorem len_applyEff (effs : Eff) : ∀ (h : List AObj), h.length ≤ (applyEff h effs).length ∧ ∀ e ∈ effs, e.1 < (applyEff h effs).length := by
  induction effs with
  | nil => intro h; simp [applyEff]
  | cons e effs ih =>
    intro h
    show h.length ≤ (applyEff (hset h e.1 e.2) effs).length ∧ ∀ f ∈ e :: effs, f.1 < (applyEff (hset h e.1 e.2) effs).length
    obtain ⟨h1, h2⟩ := ih (hset h e.1 e.2)
    rw [length_hset] at h1
    refine ⟨by omega, fun f hf => ?_⟩
    rcases List.mem_cons.1 hf with rfl | hf
    · omega
    · exact h2 f hf
theorem len_applyEff_le (effs : Eff) : ∀ (h : List AObj) (n : Nat), h.length ≤ n → (∀ e ∈ effs, e.1 < n) → (applyEff h effs).length ≤ n := by
  induction effs with
  | nil => intro h n hn _; exact hn
  | cons e effs ih =>
    intro h n hn he
    refine ih _ n ?_ fun f hf => he f (List.mem_cons_of_mem _ hf)
    rw [length_hset]
    have := he e List.mem_cons_self
    omega
theorem stOf_hlen {S S' : Nat → Bool} : ∀ (Rs : List Rec) (k : Nat) (s s' : St), (∀ j, S j = true → S' j = true) → s.h.length ≤ s'.h.length → (stOf S Rs k s).h.length ≤ (stOf S' Rs k s').h.length
  | [], _, _, _, _, h => h
  | R :: Rs, k, s, s', hS, h => by
    simp only [stOf]
    refine stOf_hlen Rs (k + 1) _ _ hS ?_
    cases hk : S k with
    | true =>
      rw [hS k hk]
      simp only [if_true]
      exact len_applyEff_le _ _ _ (Nat.le_trans h (len_applyEff _ _).1) (len_applyEff _ _).2
    | false =>
      simp only [Bool.false_eq_true, if_false]
      split
      · exact Nat.le_trans h (len_applyEff _ _).1
      · exact h
theorem stOf_hlen_ge (S : Nat → Bool) : ∀ (Rs : List Rec) (k : Nat) (s : St), s.h.length ≤ (stOf S Rs k s).h.length
  | [], _, _ => Nat.le_refl _
  | R :: Rs, k, s => by
    simp only [stOf]
    refine Nat.le_trans ?_ (stOf_hlen_ge S Rs (k + 1) _)
    split
    · exact (len_applyEff _ _).1
    · exact Nat.le_refl _
theorem stOf_eff_lt {S : Nat → Bool} : ∀ (Rs : List Rec) (k : Nat) (s : St) (j : Nat) (R : Rec), Rs[j]? = some R → S (k + j) = true → ∀ e ∈ R.effs, e.1 < (stOf S Rs k s).h.length
  | [], _, _, _, _, h, _, _, _ => by simp at h
  | R :: Rs, k, s, 0, R', h, hS, e, he => by
    simp only [List.getElem?_cons_zero, Option.some.injEq] at h
    subst h
    simp only [stOf]
    rw [Nat.add_zero] at hS
    rw [hS]
    refine Nat.lt_of_lt_of_le ?_ (stOf_hlen_ge S Rs (k + 1) _)
    exact (len_applyEff _ _).2 e he
  | R :: Rs, k, s, j + 1, R', h, hS, e, he => by
    simp only [stOf]
    exact stOf_eff_lt Rs (k + 1) _ j R' (by simpa using h) (by rw [show k + 1 + j = k + (j + 1) from by omega]; exact hS) e he
/-- Where a slot's value came from. -/
theorem stOf_from {S : Nat → Bool} {d : Nat} : ∀ (Rs : List Rec) (k : Nat) (s : St), (stOf S Rs k s).t.getD d .unk = s.t.getD d .unk ∨ ∃ j R, Rs[j]? = some R ∧ S (k + j) = true ∧ R.dst = some d ∧ (stOf S Rs k s).t.getD d .unk = R.X
  | [], _, _ => .inl rfl
  | R :: Rs, k, s => by
    simp only [stOf]
    rcases stOf_from (S := S) (d := d) Rs (k + 1) (if S k then ⟨setT s.t R.dst R.X, applyEff s.h R.effs⟩ else s) with h | ⟨j, R', h1, h2, h3, h4⟩
    · rw [h]
      cases hk : S k with
      | false => exact .inl rfl
      | true =>
        simp only [if_true]
        unfold setT
        split
        · rename_i e he
          rw [set_getD]
          split
          · rename_i hh
            exact .inr ⟨0, R, rfl, by simpa using hk, by rw [he, hh.1], rfl⟩
          · exact .inl rfl
        · exact .inl rfl
    · exact .inr ⟨j + 1, R', by simpa using h1, by rw [show k + (j + 1) = k + 1 + j from by omega]; exact h2, h3, h4⟩

theorem stOf_shift (S : Nat → Bool) : ∀ (Rs : List Rec) (k : Nat) (s : St), stOf S Rs (k + 1) s = stOf (fun j => S (j + 1)) Rs k s
  | [], _, _ => rfl
  | R :: Rs, k, s => by simp only [stOf]; exact stOf_shift S Rs (k + 1) _
theorem stOf_none {S : Nat → Bool} (h : ∀ j, S j = false) : ∀ (Rs : List Rec) (k : Nat) (s : St), stOf S Rs k s = s
  | [], _, _ => rfl
  | R :: Rs, k, s => by simp only [stOf, h k, Bool.false_eq_true, if_false]; exact stOf_none h Rs _ _
theorem runX_spec {E : Env} {ops : List Oper} : ∀ (l : List Oper) (Rs : List Rec) (s s' : St), runX E ops l s = some (Rs, s') →
    Rs.length = l.length ∧ s' = stOf (fun _ => true) Rs 0 s ∧ ∀ i o, l[i]? = some o → ∃ R, Rs[i]? = some R ∧ recOf E ops o (stOf (fun j => decide (j < i)) Rs 0 s) = some R
  | [], Rs, s, s', h => by
    simp only [runX, Option.some.injEq, Prod.mk.injEq] at h
    obtain ⟨rfl, rfl⟩ := h
    exact ⟨rfl, rfl, fun i o hi => by simp at hi⟩
  | o :: l, Rs, s, s', h => by
    simp only [runX] at h
    split at h
    · rename_i R hR
      split at h
      · rename_i Rs' s1 h1
        simp only [Option.some.injEq, Prod.mk.injEq] at h
        obtain ⟨rfl, rfl⟩ := h
        obtain ⟨e1, e2, e3⟩ := runX_spec l Rs' _ _ h1
        refine ⟨by simp [e1], ?_, fun i o' hi => ?_⟩
        · simp only [stOf, if_true]; rw [stOf_shift]; exact e2
        · cases i with
          | zero =>
            simp only [List.getElem?_cons_zero, Option.some.injEq] at hi
            subst hi
            refine ⟨R, rfl, ?_⟩
            rw [stOf_none (by intro j; simp)]
            exact hR
          | succ i =>
            obtain ⟨R', h2, h3⟩ := e3 i o' (by simpa using hi)
            refine ⟨R', by simpa using h2, ?_⟩
            simp only [stOf, Nat.zero_lt_succ, decide_true, if_true]
            rw [stOf_shift]
            have : (fun j => decide (j + 1 < i + 1)) = fun j => decide (j < i) := by funext j; simp
            rw [this]
            exact h3
      · cases h
    · cases h

/-! ### What must come ahead -/
def mask (acc : List Nat) (o : Oper) : Nat := o.after.toList.foldl (fun s e => if Region.binds .any e then s ||| 2 ^ e.on ||| acc.getD e.on 0 else s) 0
theorem before_spec : ∀ (r : List Oper) (acc : List Nat), ∃ ext, before r acc = acc ++ ext ∧ ext.length = r.length ∧ ∀ i o, r[i]? = some o → ext[i]? = some (mask ((acc ++ ext).take (acc.length + i)) o)
  | [], acc => ⟨[], by simp [before], rfl, fun i o h => by simp at h⟩
  | o :: r, acc => by
    obtain ⟨ext, h1, h2, h3⟩ := before_spec r (acc ++ [mask acc o])
    refine ⟨mask acc o :: ext, ?_, by simp [h2], fun i o' hi => ?_⟩
    · show before r (acc ++ [mask acc o]) = _
      rw [h1]; simp
    · cases i with
      | zero =>
        simp only [List.getElem?_cons_zero, Option.some.injEq] at hi ⊢
        subst hi
        simp
      | succ i =>
        have := h3 i o' (by simpa using hi)
        simp only [List.getElem?_cons_succ]
        rw [this]
        simp only [List.append_assoc, List.singleton_append, List.length_append, List.length_singleton]
        rw [show acc.length + 1 + i = acc.length + (i + 1) from by omega]
theorem mask_bit {acc : List Nat} {j : Nat} : ∀ (es : List Edge) (m : Nat), (es.foldl (fun s e => if Region.binds .any e then s ||| 2 ^ e.on ||| acc.getD e.on 0 else s) m).testBit j = true →
    m.testBit j = true ∨ ∃ e ∈ es, Region.binds .any e = true ∧ (e.on = j ∨ (acc.getD e.on 0).testBit j = true)
  | [], m, h => .inl h
  | e :: es, m, h => by
    simp only [List.foldl_cons] at h
    rcases mask_bit es _ h with h | ⟨f, hf, hb, hh⟩
    · split at h
      · rename_i hb
        simp only [Nat.testBit_or, Nat.testBit_two_pow, Bool.or_eq_true, decide_eq_true_eq] at h
        rcases h with (h | h) | h
        · exact .inl h
        · exact .inr ⟨e, List.mem_cons_self, hb, .inl h⟩
        · exact .inr ⟨e, List.mem_cons_self, hb, .inr h⟩
      · exact .inl h
    · exact .inr ⟨f, List.mem_cons_of_mem _ hf, hb, hh⟩
/-- What must come ahead of i has come where all that i waits for has come. -/
theorem before_holds {ops : List Oper} {S : Nat → Bool} (hcl : ∀ i o, ops[i]? = some o → S i = true → ∀ e ∈ o.after, Region.binds .any e = true → S e.on = true) :
    ∀ (i : Nat) (o : Oper), ops[i]? = some o → (∀ e ∈ o.after, Region.binds .any e = true → S e.on = true) → ∀ j, ((before ops []).getD i 0).testBit j = true → S j = true := by
  obtain ⟨ext, h1, h2, h3⟩ := before_spec ops []
  simp only [List.nil_append] at h1
  rw [h1]
  intro i
  induction i using Nat.strongRecOn with
  | _ i ih =>
    intro o ho hdep j hj
    have := h3 i o ho
    rw [List.getD_eq_getElem?_getD, this] at hj
    simp only [Option.getD_some, List.nil_append, List.length_nil, Nat.zero_add, mask] at hj
    rcases mask_bit _ _ hj with h | ⟨e, he, hb, hh⟩
    · simp at h
    · have hS := hdep e (by simpa using he) hb
      rcases hh with rfl | hh
      · exact hS
      · rcases Nat.lt_or_ge e.on i with hlt | hge
        · have hg : (ext.take i).getD e.on 0 = ext.getD e.on 0 := by simp [List.getD_eq_getElem?_getD, List.getElem?_take_of_lt hlt]
          rw [hg] at hh
          have hlen : e.on < ops.length := by have := (List.getElem?_eq_some_iff.1 ho).1; omega
          exact ih e.on hlt ops[e.on] (List.getElem?_eq_getElem hlen) (hcl e.on _ (List.getElem?_eq_getElem hlen) hS) j hh
        · have hg : (ext.take i).getD e.on 0 = 0 := by simp [List.getD_eq_getElem?_getD, List.getElem?_take_eq_none hge]
          rw [hg] at hh
          simp at hh

theorem stOf_succ : ∀ (Rs : List Rec) (i : Nat) (R : Rec) (s : St), Rs[i]? = some R → stOf (fun j => decide (j < i + 1)) Rs 0 s =
    ⟨setT (stOf (fun j => decide (j < i)) Rs 0 s).t R.dst R.X, applyEff (stOf (fun j => decide (j < i)) Rs 0 s).h R.effs⟩
  | [], i, R, s, h => by simp at h
  | R' :: Rs, 0, R, s, h => by
    simp only [List.getElem?_cons_zero, Option.some.injEq] at h
    subst h
    rw [stOf_none (S := fun j => decide (j < 0)) (by intro j; simp)]
    simp only [stOf, Nat.zero_add, Nat.lt_one_iff, decide_true, if_true]
    rw [stOf_shift, stOf_none (by intro j; simp)]
  | R' :: Rs, i + 1, R, s, h => by
    simp only [stOf, Nat.zero_lt_succ, decide_true, if_true]
    rw [stOf_shift, stOf_shift]
    have e1 : (fun j => decide (j + 1 < i + 1 + 1)) = fun j => decide (j < i + 1) := by funext j; simp
    have e2 : (fun j => decide (j + 1 < i + 1)) = fun j => decide (j < i) := by funext j; simp
    rw [e1, e2]
    exact stOf_succ Rs i R _ (by simpa using h)
theorem keepT_getD (acc : List Nat) (t : List AV) (d : Nat) : (keepT acc t).getD d .unk = if acc.contains d then t.getD d .unk else .unk := by
  unfold keepT
  simp only [List.getD_eq_getElem?_getD, List.getElem?_map, List.getElem?_zipIdx]
  cases t[d]? <;> simp
theorem keepH_get (ids : List Nat) (h : List AObj) (i : Nat) : hget (keepH ids h) i = if ids.contains i then hget h i else .dead := by
  unfold keepH hget
  simp only [List.getD_eq_getElem?_getD, List.getElem?_map, List.getElem?_zipIdx]
  cases h[i]? <;> simp
theorem SimH.congr {B : Nat → Prop} {w0 w : World} {M0 M : Mem} {h h' : List AObj} {ρ : Loc} (H : SimH B w0 M0 h w ρ M) (he : ∀ id, hget h' id = hget h id) (hf : ∀ id, h'.length ≤ id → ρ id = none) : SimH B w0 M0 h' w ρ M :=
  ⟨fun id => by rw [he]; exact H.obj id, hf, H.own, H.mem, H.old, H.below, H.size, H.good⟩

theorem filter_le {p q : Nat → Bool} (hle : ∀ j, q j = true → p j = true) : ∀ l : List Nat, (l.filter q).length ≤ (l.filter p).length
  | [] => Nat.le_refl _
  | y :: l => by
    have ih := filter_le hle l
    cases hq : q y with
    | true => rw [List.filter_cons_of_pos hq, List.filter_cons_of_pos (hle y hq)]; simp only [List.length_cons]; omega
    | false =>
      rw [List.filter_cons_of_neg (by rw [hq]; simp)]
      cases hp : p y with
      | true => rw [List.filter_cons_of_pos hp]; simp only [List.length_cons]; omega
      | false => rw [List.filter_cons_of_neg (by rw [hp]; simp)]; exact ih
theorem filter_lt {p q : Nat → Bool} {i : Nat} : ∀ (l : List Nat), i ∈ l → p i = true → q i = false → (∀ j, q j = true → p j = true) → (l.filter q).length < (l.filter p).length
  | [], h, _, _, _ => by cases h
  | x :: l, h, hp, hq, hle => by
    rcases List.mem_cons.1 h with rfl | h
    · rw [List.filter_cons_of_pos hp, List.filter_cons_of_neg (by rw [hq]; simp)]
      have := filter_le hle l
      simp only [List.length_cons]
      omega
    · have ih := filter_lt l h hp hq hle
      cases hq' : q x with
      | true => rw [List.filter_cons_of_pos hq', List.filter_cons_of_pos (hle x hq')]; simp only [List.length_cons]; omega
      | false =>
        rw [List.filter_cons_of_neg (by rw [hq']; simp)]
        cases hp' : p x with
        | true => rw [List.filter_cons_of_pos hp']; simp only [List.length_cons]; omega
        | false => rw [List.filter_cons_of_neg (by rw [hp']; simp)]; exact ih

section
variable {E : Env} {B : Nat → Prop} {w0 : World} {M0 : Mem} {ops : List Oper} {Rs : List Rec} {s0 : St}
theorem draw_any (hK : KOk E) (hlen : Rs.length = ops.length) (hspec : ∀ i o, ops[i]? = some o → ∃ R, Rs[i]? = some R ∧ recOf E ops o (stOf (fun j => decide (j < i)) Rs 0 s0) = some R)
    (hclean : ∀ d j b x, s0.t.getD d .unk ≠ .grd j b x) (hback : edgesBack ops = true) (hpairs : pairsOk Rs (before ops []) = true) (hgrd : grdOk Rs (before ops []) = true) (hp : ∀ R ∈ Rs, ∀ q ∈ R.p, q)
    (Ms : Mem) (ρs : Loc) (Q : Exit → Act → World → Prop) (hQ : ∀ a w ρ M, ρs.le ρ → Ms.le M → SimH B w0 M0 (stOf (fun _ => true) Rs 0 s0).h w ρ M → SimT D ρ M (yG ops.toArray a) (stOf (fun _ => true) Rs 0 s0).t a → Q .normal a w) :
    ∀ (fuel : Nat) (listed : Array Bool) (a : Act) (w : World) (ρ : Loc) (M : Mem), listed.size = ops.length →
      (∀ i o, ops[i]? = some o → listed.getD i false = true → ∀ e ∈ o.after, Region.binds .any e = true → listed.getD e.on false = true) →
      ((List.range ops.length).filter fun j => !listed.getD j false).length ≤ fuel →
      SimH B w0 M0 (stOf (fun j => listed.getD j false) Rs 0 s0).h w ρ M → SimT D ρ M (yG ops.toArray a) (stOf (fun j => listed.getD j false) Rs 0 s0).t a →
      (∀ j R, Rs[j]? = some R → listed.getD j false = false → ∀ e ∈ R.effs, R.nid ≤ e.1 → ρ e.1 = none) → ρs.le ρ → Ms.le M →
      wpAnyIn (wR ro) 0 E.P .any ops.toArray Q fuel listed a w := by
  have hpair : ∀ i j x y, i < j → Rs[i]? = some x → Rs[j]? = some y → ((before ops []).getD j 0).testBit i = true ∨ indep x y = true := by
    intro i j x y hij hx hy
    have hj : j < Rs.length := (List.getElem?_eq_some_iff.1 hy).1
    have := List.all_eq_true.1 (List.all_eq_true.1 hpairs j (List.mem_range.2 hj)) i (List.mem_range.2 hij)
    simpa [hx, hy] using this
  intro fuel
  induction fuel with
  | zero =>
    intro listed a w ρ M hsz _ hcnt H T _ hρs hM
    have hall : ∀ j, j < ops.length → listed.getD j false = true := by
      intro j hj
      cases hb : listed.getD j false with
      | true => rfl
      | false =>
        have : j ∈ (List.range ops.length).filter fun j => !listed.getD j false := List.mem_filter.2 ⟨List.mem_range.2 hj, by rw [hb]; rfl⟩
        have := List.length_pos_of_mem this
        omega
    have hst : stOf (fun j => listed.getD j false) Rs 0 s0 = stOf (fun _ => true) Rs 0 s0 := stOf_congr Rs 0 s0 fun j _ hj => hall j (by omega)
    refine ⟨?_, hQ a w ρ M hρs hM (hst ▸ H) (hst ▸ T)⟩
    cases hr : Region.ready .any ops.toArray listed with
    | nil => rfl
    | cons i r =>
      have hm : i ∈ Region.ready .any ops.toArray listed := by rw [hr]; exact List.mem_cons_self
      obtain ⟨h1, o, ho, _⟩ := mem_ready.1 hm
      have hi : i < ops.length := by have := (Array.getElem?_eq_some_iff.1 ho).1; simpa using this
      have := hall i hi
      rw [Array.getD_eq_getD_getElem?] at h1 this
      rw [Array.getElem?_eq_getElem (by omega)] at h1 this
      simp at h1 this
      rw [h1] at this
      cases this
  | succ fuel ih =>
    intro listed a w ρ M hsz hcl hcnt H T hnew hρs hM
    refine ⟨fun h0 => ?_, fun i hi => ?_⟩
    · -- nothing waits: all have come
      have hall : ∀ j, j < ops.length → listed.getD j false = true := by
        intro j
        induction j using Nat.strongRecOn with
        | _ j ihj =>
          intro hj
          cases hb : listed.getD j false with
          | true => rfl
          | false =>
            have hm : j ∈ Region.ready .any ops.toArray listed := by
              refine mem_ready.2 ⟨?_, ops[j], by simp [hj], fun e he hbind => ?_⟩
              · rw [Array.getD_eq_getD_getElem?] at hb ⊢
                rw [Array.getElem?_eq_getElem (by omega)] at hb ⊢
                simpa using hb
              · have hz : (ops[j], j) ∈ ops.zipIdx := by rw [List.mem_zipIdx_iff_getElem?]; simp [hj]
                have := List.all_eq_true.1 (List.all_eq_true.1 hback _ hz) e (by simpa using he)
                simp only [hbind, Bool.not_true, Bool.false_or, decide_eq_true_eq] at this
                exact ihj e.on this (by omega)
            rw [h0] at hm
            cases hm
      have hst : stOf (fun j => listed.getD j false) Rs 0 s0 = stOf (fun _ => true) Rs 0 s0 := stOf_congr Rs 0 s0 fun j _ hj => hall j (by omega)
      exact hQ a w ρ M hρs hM (hst ▸ H) (hst ▸ T)
    · obtain ⟨h1, o, ho, hdep⟩ := mem_ready.1 hi
      have hil : i < ops.length := by have := (Array.getElem?_eq_some_iff.1 ho).1; simpa using this
      have ho' : ops[i]? = some o := by simpa using ho
      have hSi : listed.getD i false = false := by
        rw [Array.getD_eq_getD_getElem?] at h1 ⊢
        rw [Array.getElem?_eq_getElem (by omega)] at h1 ⊢
        simpa using h1
      obtain ⟨R, hRi, hrec⟩ := hspec i o ho'
      have hdepS : ∀ e ∈ o.after, Region.binds .any e = true → listed.getD e.on false = true := hdep
      -- which have come
      have hord : ∀ j R', Rs[j]? = some R' → j ≠ i → (j < i → ¬ indep R' R = true) → (i < j → ¬ indep R R' = true) → listed.getD j false = decide (j < i) := by
        intro j R' hj hne h1 h2
        rcases Nat.lt_or_ge j i with hlt | hge
        · rw [decide_eq_true hlt]
          rcases hpair j i R' R hlt hj hRi with hb | hb
          · exact before_holds (S := fun j => listed.getD j false) hcl i o ho' hdepS j hb
          · exact absurd hb (h1 hlt)
        · have hlt : i < j := by omega
          rw [decide_eq_false (by omega)]
          rcases hpair i j R R' hlt hRi hj with hb | hb
          · cases hbj : listed.getD j false with
            | false => rfl
            | true =>
              have hjl : j < ops.length := by have := (List.getElem?_eq_some_iff.1 hj).1; omega
              have := before_holds (S := fun j => listed.getD j false) hcl j ops[j] (List.getElem?_eq_getElem hjl) (hcl j _ (List.getElem?_eq_getElem hjl) hbj) i hb
              simp only [hSi] at this
              cases this
          · exact absurd hb (h2 hlt)
      have hA : ∀ d, (R.acc.contains d = true ∨ R.dst = some d) → ∀ j R', Rs[j]? = some R' → R'.dst = some d → j ≠ i → listed.getD j false = decide (j < i) := by
        intro d hd j R' hj hdst hne
        refine hord j R' hj hne (fun _ hin => ?_) (fun _ hin => ?_)
        · simp only [indep, Bool.and_eq_true, hdst] at hin
          rcases hd with hd | hd
          · have := hin.1.1.1.1; rw [hd] at this; cases this
          · have := hin.1.1.1.2; rw [hd] at this; simp at this
        · simp only [indep, Bool.and_eq_true, hdst] at hin
          rcases hd with hd | hd
          · have := hin.1.1.2; rw [hd] at this; cases this
          · have := hin.1.1.1; rw [hd] at this; simp at this
      have hB : ∀ id, (R.ids.contains id = true ∨ ∃ e ∈ R.effs, e.1 = id) → ∀ j R', Rs[j]? = some R' → (∃ e ∈ R'.effs, e.1 = id) → j ≠ i → listed.getD j false = decide (j < i) := by
        intro id hid j R' hj heff hne
        obtain ⟨e, he, rfl⟩ := heff
        refine hord j R' hj hne (fun _ hin => ?_) (fun _ hin => ?_)
        · simp only [indep, Bool.and_eq_true] at hin
          have := List.all_eq_true.1 hin.1.2 e he
          simp only [Bool.and_eq_true] at this
          rcases hid with hd | ⟨f, hf, hfe⟩
          · have := this.1; rw [hd] at this; cases this
          · have := List.all_eq_true.1 this.2 f hf; simp [hfe] at this
        · simp only [indep, Bool.and_eq_true] at hin
          rcases hid with hd | ⟨f, hf, hfe⟩
          · have := List.all_eq_true.1 hin.2 e he; rw [hd] at this; cases this
          · have := List.all_eq_true.1 hin.1.2 f hf
            simp only [Bool.and_eq_true] at this
            have := List.all_eq_true.1 this.2 e he
            simp [hfe] at this
      -- what the operation looks at is as in the text's order
      generalize hτ : stOf (fun j => decide (j < i)) Rs 0 s0 = τ at hrec
      have hst : ∀ d, R.acc.contains d = true → (stOf (fun j => listed.getD j false) Rs 0 s0).t.getD d .unk = τ.t.getD d .unk := by
        intro d hd
        rw [← hτ]
        refine stOf_slot Rs 0 s0 s0 (fun j R' hj hdst => ?_) rfl rfl
        simp only [Nat.zero_add]
        by_cases e : j = i
        · subst e; rw [hSi]; simp
        · exact hA d (.inl hd) j R' hj hdst e
      have hso : ∀ id, (R.ids.contains id = true ∨ ∃ e ∈ R.effs, e.1 = id) → hget (stOf (fun j => listed.getD j false) Rs 0 s0).h id = hget τ.h id := by
        intro id hid
        rw [← hτ]
        refine stOf_obj Rs 0 s0 s0 (fun j R' hj heff => ?_) rfl
        simp only [Nat.zero_add]
        by_cases e : j = i
        · subst e; rw [hSi]; simp
        · exact hB id hid j R' hj heff e
      have hRmem : R ∈ Rs := List.mem_of_getElem? hRi
      have hpR := hp R hRmem
      have hnewR := hnew i R hRi hSi
      have hτlen : τ.t.length = s0.t.length := by rw [← hτ]; exact stOf_len _ _ _ _
      have hSlen : ∀ S, (stOf S Rs 0 s0).t.length = s0.t.length := fun S => stOf_len _ _ _ _
      -- the record
      unfold recOf at hrec
      simp only [] at hrec
      split at hrec
      case h_2 => cases hrec
      rename_i p X effs hX
      injection hrec with hrec
      have e1 : R.acc = accOf ops o := by rw [← hrec]
      have e2 : R.effs = effs := by rw [← hrec]
      have e3 : R.X = X := by rw [← hrec]
      have e4 : R.dst = o.dst := by rw [← hrec]
      have e5 : R.p = p := by rw [← hrec]
      have e6 : R.nid = τ.h.length := by rw [← hrec]
      have e7 : R.ids = idsOfL ((accOf ops o).map fun d => τ.t.getD d .unk) := by rw [← hrec]
      rw [e5] at hpR
      have hT' : SimT D ρ M (yG ops.toArray a) (keepT (accOf ops o) τ.t) a := by
        refine ⟨by rw [← T.len, hSlen]; simp [keepT, hτlen], T.defers, fun d => ?_⟩
        rw [keepT_getD]
        split
        · rename_i hd
          rw [← hst d (by rw [e1]; exact hd)]
          exact T.at_ d
        · simp [repS, rep]
      have hle : ∀ id, hget (keepH (idsOfL ((accOf ops o).map fun d => τ.t.getD d .unk)) τ.h) id ≠ .dead → hget (stOf (fun j => listed.getD j false) Rs 0 s0).h id = hget (keepH (idsOfL ((accOf ops o).map fun d => τ.t.getD d .unk)) τ.h) id := by
        intro id hd
        rw [keepH_get] at hd ⊢
        split at hd
        · rename_i hc
          rw [if_pos hc]
          exact hso id (.inl (by rw [e7]; exact hc))
        · exact absurd rfl hd
      have hstep := stepX_sound (ro := ro) hK hX hpR H hle (fun q hq hnid => hnewR q (by rw [e2]; exact hq) (by rw [e6]; exact hnid)) hT' (wpAnyIn (wR ro) 0 E.P .any ops.toArray Q fuel (listed.setIfInBounds i true)) Q (by
        intro v w' ρ' M' hρ hM' H' hv
        have hS'i : ∀ j, (listed.setIfInBounds i true).getD j false = (decide (j = i) || listed.getD j false) := by
          intro j
          by_cases e : j = i
          · subst e
            simp [Array.getD_eq_getD_getElem?, hsz, hil]
          · rw [getD_set_ne false (Ne.symm e)]; simp [e]
        have hsucc := stOf_succ Rs i R s0 hRi
        rw [hτ] at hsucc
        refine ih (listed.setIfInBounds i true) _ w' ρ' M' (by simp [hsz]) ?_ ?_ ?_ ?_ ?_ (Loc.le_trans hρs hρ.1) (Mem.le_trans hM hM')
        · intro j oj hj hSj e he hb
          rw [hS'i] at hSj ⊢
          by_cases ej : j = i
          · subst ej
            have : oj = o := by rw [ho'] at hj; injection hj with hj; exact hj.symm
            subst this
            rw [hdepS e he hb]; simp
          · have : listed.getD j false = true := by simpa [ej] using hSj
            rw [hcl j oj hj this e he hb]; simp
        · have := filter_lt (p := fun j => !listed.getD j false) (q := fun j => !(listed.setIfInBounds i true).getD j false) (i := i) (List.range ops.length) (List.mem_range.2 hil) (by rw [hSi]; rfl) (by rw [hS'i]; simp) (fun j hj => by
            rw [hS'i] at hj
            simp only [Bool.not_or, Bool.and_eq_true] at hj
            exact hj.2)
          omega
        · -- the objects
          refine H'.congr (fun id => ?_) (fun id hid => ?_)
          · by_cases hid : ∃ e ∈ R.effs, e.1 = id
            · have : hget (stOf (fun j => (listed.setIfInBounds i true).getD j false) Rs 0 s0).h id = hget (stOf (fun j => decide (j < i + 1)) Rs 0 s0).h id := by
                refine stOf_obj Rs 0 s0 s0 (fun j R' hj heff => ?_) rfl
                simp only [Nat.zero_add]
                rw [hS'i]
                by_cases e : j = i
                · subst e; simp
                · rw [hB id (.inr hid) j R' hj heff e]
                  rw [Bool.eq_iff_iff]
                  simp [e]
                  omega
              rw [this, hsucc]
              simp only [e2]
              exact hget_applyEff_congr _ _ _ _ (hso id (.inr hid)).symm
            · have : hget (stOf (fun j => (listed.setIfInBounds i true).getD j false) Rs 0 s0).h id = hget (stOf (fun j => listed.getD j false) Rs 0 s0).h id := by
                refine stOf_obj Rs 0 s0 s0 (fun j R' hj heff => ?_) rfl
                simp only [Nat.zero_add]
                rw [hS'i]
                by_cases e : j = i
                · subst e
                  rw [hRi] at hj
                  injection hj with hj
                  subst hj
                  exact absurd heff hid
                · simp [e]
              rw [this, hget_applyEff]
              intro e he hh
              exact hid ⟨e, by rw [e2]; exact he, hh⟩
          · refine H'.fresh id (Nat.le_trans ?_ hid)
            refine len_applyEff_le _ _ _ ?_ ?_
            · exact stOf_hlen Rs 0 s0 s0 (fun j hj => by rw [hS'i, hj]; simp) (Nat.le_refl _)
            · intro e he
              exact stOf_eff_lt (S := fun j => (listed.setIfInBounds i true).getD j false) Rs 0 s0 i R hRi (by simp only [Nat.zero_add]; rw [hS'i]; simp) e (by rw [e2]; exact he)
        · -- the slots
          refine ⟨by rw [hSlen]; rw [show (a.put o.dst v).tmps.size = a.tmps.size from by cases o.dst <;> simp [Act.put]]; rw [← T.len, hSlen], by cases o.dst <;> exact T.defers, fun d => ?_⟩
          by_cases hd : R.dst = some d
          · have hsl : (stOf (fun j => (listed.setIfInBounds i true).getD j false) Rs 0 s0).t.getD d .unk = (stOf (fun j => decide (j < i + 1)) Rs 0 s0).t.getD d .unk := by
              refine stOf_slot Rs 0 s0 s0 (fun j R' hj hdst => ?_) rfl rfl
              simp only [Nat.zero_add]
              rw [hS'i]
              by_cases e : j = i
              · subst e; simp
              · rw [hA d (.inr hd) j R' hj hdst e]
                rw [Bool.eq_iff_iff]
                simp [e]
                omega
            rw [hsl, hsucc]
            have hdo : o.dst = some d := by rw [← e4]; exact hd
            rw [hdo] at hv ⊢
            simp only [setT, hd]
            rw [set_getD, getD_put, hτlen, ← hSlen (fun j => listed.getD j false), T.len]
            split
            · rw [e3]; exact hv
            · rename_i hn
              have h3 : a.tmps.size ≤ d := by simp only [true_and, Nat.not_lt] at hn; exact hn
              have : τ.t.getD d .unk = .unk := by
                rw [List.getD_eq_getElem?_getD, List.getElem?_eq_none (by rw [hτlen, ← hSlen (fun j => listed.getD j false), T.len]; exact h3)]; rfl
              rw [this]; simp [repS, rep]
          · have hsl : (stOf (fun j => (listed.setIfInBounds i true).getD j false) Rs 0 s0).t.getD d .unk = (stOf (fun j => listed.getD j false) Rs 0 s0).t.getD d .unk := by
              refine stOf_slot Rs 0 s0 s0 (fun j R' hj hdst => ?_) rfl rfl
              simp only [Nat.zero_add]
              rw [hS'i]
              by_cases e : j = i
              · subst e
                rw [hRi] at hj
                injection hj with hj
                subst hj
                exact absurd hdst hd
              · simp [e]
            rw [hsl]
            have hold : (a.put o.dst v).tmps.getD d undef = a.tmps.getD d undef := by
              cases hdo : o.dst with
              | none => rfl
              | some d' =>
                rw [getD_put, if_neg]
                rintro ⟨rfl, _⟩
                exact hd (by rw [e4]; exact hdo)
            rw [hold]
            have hbase := repS_mono hρ.1 hM' (T.at_ d)
            rcases stOf_from (S := fun j => listed.getD j false) (d := d) Rs 0 s0 with hfrom | ⟨j, R', hj, hSj, hdst, hval⟩
            · rw [hfrom] at hbase ⊢
              have := hclean d
              generalize s0.t.getD d .unk = y at this hbase ⊢
              cases y
              case grd j b x => exact absurd rfl (this j b x)
              all_goals exact hbase
            · rw [hval] at hbase ⊢
              simp only [Nat.zero_add] at hSj
              cases hRX : R'.X
              case grd j2 b x =>
                rw [hRX] at hbase
                have hjl : j < Rs.length := (List.getElem?_eq_some_iff.1 hj).1
                have hg := List.all_eq_true.1 hgrd j (List.mem_range.2 hjl)
                rw [hj] at hg
                simp only [hRX, Bool.and_eq_true] at hg
                have hjo : j < ops.length := by omega
                have hj2 : listed.getD j2 false = true := before_holds (S := fun j => listed.getD j false) hcl j ops[j] (List.getElem?_eq_getElem hjo) (hcl j _ (List.getElem?_eq_getElem hjo) hSj) j2 hg.1
                have hne : i ≠ j2 := fun e => by subst e; rw [hSi] at hj2; cases hj2
                have hy : yielded ops.toArray (a.put o.dst v).tmps j2 = yielded ops.toArray a.tmps j2 := by
                  cases hdo : o.dst with
                  | none => rfl
                  | some d' =>
                    refine yielded_put fun hh => ?_
                    have hgi := List.all_eq_true.1 hg.2 i (List.mem_range.2 (by omega))
                    have hne' : (i == j2) = false := by simp [hne]
                    rw [hne', hRi] at hgi
                    simp only [Bool.false_or] at hgi
                    have hj2l : ∃ o2, ops[j2]? = some o2 ∧ o2.dst = some d' := by
                      have : (ops[j2]?).bind (·.dst) = some d' := by simpa using hh
                      cases ho2 : ops[j2]? with
                      | none => rw [ho2] at this; cases this
                      | some o2 => rw [ho2] at this; exact ⟨o2, rfl, this⟩
                    obtain ⟨o2, ho2, hd2⟩ := hj2l
                    obtain ⟨R2, hR2, hrec2⟩ := hspec j2 o2 ho2
                    have hR2d : R2.dst = o2.dst := by
                      unfold recOf at hrec2
                      simp only [] at hrec2
                      split at hrec2
                      · injection hrec2 with hrec2; rw [← hrec2]
                      · cases hrec2
                    rw [hR2] at hgi
                    simp only [e4, hdo, hR2d, hd2] at hgi
                    simp at hgi
                simp only [repS, yG, hy] at hbase ⊢
                exact hbase
              all_goals (rw [hRX] at hbase; exact hbase)
        · intro j R' hj hSj e he hnid
          rw [hS'i] at hSj
          have hji : j ≠ i := fun h => by subst h; simp at hSj
          have hSj' : listed.getD j false = false := by simpa [hji] using hSj
          rw [hρ.2 e.1 (fun f hf hh => ?_)]
          · exact hnew j R' hj hSj' e he hnid
          · -- no object of i's is one of j's: they are apart, or j waits for i (and then its new objects are others)
            have hfi : ∃ g ∈ R.effs, g.1 = e.1 := ⟨f, by rw [e2]; exact hf, hh⟩
            have hcmp := hB e.1 (.inr hfi) j R' hj ⟨e, he, rfl⟩ hji
            rw [hSj'] at hcmp
            have hij : i < j := by
              have : ¬ j < i := by simpa using hcmp.symm
              omega
            -- the new objects of j begin behind those of i
            have hjo : j < ops.length := by have := (List.getElem?_eq_some_iff.1 hj).1; omega
            obtain ⟨R2, hR2, hrec2⟩ := hspec j ops[j] (List.getElem?_eq_getElem hjo)
            rw [hj] at hR2
            injection hR2 with hR2
            subst hR2
            have hnidj : R'.nid = (stOf (fun k => decide (k < j)) Rs 0 s0).h.length := by
              unfold recOf at hrec2
              simp only [] at hrec2
              split at hrec2
              · injection hrec2 with hrec2; rw [← hrec2]
              · cases hrec2
            have hlt := stOf_eff_lt (S := fun k => decide (k < j)) Rs 0 s0 i R hRi (by simpa using hij) f (by rw [e2]; exact hf)
            rw [hnidj] at hnid
            omega)
      unfold wpOpIn
      rw [ho]
      simp only []
      split
      · rename_i hw; rw [if_pos hw] at hstep; exact hstep
      · rename_i hw; rw [if_neg hw] at hstep; exact ⟨fun _ _ => trivial, hstep⟩

theorem evDraw_sound {w : World} {M : Mem} {ρ : Loc} {a : Act} (hK : KOk E) {id : Nat} {l : List Oper} {s s' : St} {p : List Prop} (he : evDraw E l s = some (p, s')) (hp : ∀ q ∈ p, q) (H : Sim D B w0 M0 s a w ρ M)
    (Q : Exit → Act → World → Prop) (hQ : ∀ a' w' ρ' M', ρ.le ρ' → M.le M' → Sim D B w0 M0 s' a' w' ρ' M' → Q .normal a' w') : (Code.region id l.toArray true).wpIn (wR ro) 0 E.P Q a w := by
  unfold evDraw at he
  split at he
  · rename_i Rs s1 h1
    split at he
    · rename_i hc
      simp only [Bool.and_eq_true] at hc
      obtain ⟨⟨⟨hm, hback⟩, hpairs⟩, hgrd⟩ := hc
      simp only [Option.some.injEq, Prod.mk.injEq] at he
      obtain ⟨rfl, rfl⟩ := he
      obtain ⟨hlen, hs1, hspec⟩ := runX_spec l Rs _ s1 h1
      have hnone : stOf (fun j => (Array.replicate l.length false).getD j false) Rs 0 (cleanS s) = cleanS s := stOf_none (fun j => by
        rw [Array.getD_eq_getD_getElem?, Array.getElem?_replicate]; split <;> rfl) Rs 0 _
      refine wpIn_region_any hm ?_
      have hsz : l.toArray.size = l.length := by simp
      rw [hsz]
      refine draw_any (D := D) (B := B) (w0 := w0) (M0 := M0) hK hlen hspec ?_ hback hpairs hgrd (fun R hR q hq => hp q (List.mem_flatten.2 ⟨R.p, List.mem_map.2 ⟨R, hR, rfl⟩, hq⟩)) M ρ Q ?_ l.length _ a _ ρ M (by simp) ?_ ?_ ?_ ?_ ?_ (Loc.le_refl _) (Mem.le_refl _)
      · intro d j b x
        simp only [cleanS]
        rw [map_getD _ rfl]
        generalize s.t.getD d .unk = y
        cases y <;> simp [ungrd]
      · intro a' w' ρ' M' hρ hM H' T'
        refine hQ a' w' ρ' M' hρ hM ?_
        rw [hs1]
        exact ⟨H', T'.clean⟩
      · intro i o _ hS
        rw [Array.getD_eq_getD_getElem?, Array.getElem?_replicate] at hS
        split at hS <;> cases hS
      · refine Nat.le_trans (List.length_filter_le _ _) ?_
        simp
      · rw [hnone]; exact H.h.drew
      · rw [hnone]; exact H.t.clean
      · intro j R hj _ e he hnid
        have hjl : j < l.length := by have := (List.getElem?_eq_some_iff.1 hj).1; omega
        obtain ⟨R2, hR2, hrec2⟩ := hspec j l[j] (List.getElem?_eq_getElem hjl)
        rw [hj] at hR2
        injection hR2 with hR2
        subst hR2
        have hnidj : R.nid = (stOf (fun k => decide (k < j)) Rs 0 (cleanS s)).h.length := by
          unfold recOf at hrec2
          simp only [] at hrec2
          split at hrec2
          · injection hrec2 with hrec2; rw [← hrec2]
          · cases hrec2
        refine H.h.fresh _ ?_
        have := stOf_hlen_ge (fun k => decide (k < j)) Rs 0 (cleanS s)
        have h2 : (cleanS s).h = s.h := rfl
        rw [h2] at this
        omega
    · cases he
  · cases he
end
end Go.Eng
