/- The engine: parts 10 11 12 13 14. -/
import Derived.Test.YtbjifeobhenkfaaEC
import Derived.Deep.LoopGhost
import Derived.Conc.MuLone
set_option linter.unusedVariables false
set_option linter.unusedSimpArgs false
section
namespace Go.Eng
open Go.RowKit (Below)
variable {D : List Deferred} {ro : Option Nat}

def stepX (E : Env) (ops : List Oper) (o : Oper) (t : List AV) (hr : List AObj) (nid : Nat) : Option (List Prop × AV × Eff) :=
 match o.guard with
 | none => match isPick o.op with
  | some (c, x, y) => match evPick ops t [] c x y with
   | some z => some ([], ungrd [] z, [])
   | none => none
  | none => match evOpF E (t.map (ungrd [])) hr nid o with
   | some (x, effs, need) => some (need, ungrd [] x, effs)
   | none => none
 | some g => if (ops[g.1]?).bind (·.dst) == o.dst then none else match isPick o.op with
  | some (c, x, y) => match evPick ops t (tagsOf ops t 8 g) c x y with
   | some z => some ([], .grd g.1 g.2 z, [])
   | none => none
  | none => match evOpG E (t.map (ungrd (tagsOf ops t 8 g))) hr nid o with
   | some (x, [], need) => some (need.map fun p => (condP ops t 8 g → p), .grd g.1 g.2 x, [])
   | _ => none

section
variable {E : Env} {B : Nat → Prop} {w0 w : World} {M0 M : Mem} {ρ : Loc} {a : Act} {ops : List Oper} {h hr : List AObj} {t : List AV}
theorem stepX_sound (hK : KOk E) {o : Oper} {nid : Nat} {p : List Prop} {X : AV} {effs : Eff} (he : stepX E ops o t hr nid = some (p, X, effs)) (hp : ∀ q ∈ p, q) (H : SimH B w0 M0 h w ρ M)
  (hle : ∀ id, hget hr id ≠ .dead → hget h id = hget hr id) (hfr : ∀ q ∈ effs, nid ≤ q.1 → ρ q.1 = none) (T : SimT D ρ M (yG ops.toArray a) t a)
  (next : Act → World → Prop) (Q : Exit → Act → World → Prop) (hnext : ∀ v w' ρ' M', ρ.only ρ' effs → M.le M' → SimH B w0 M0 (applyEff h effs) w' ρ' M' → repS ρ' M' (yG ops.toArray (a.put o.dst v)) X v → next (a.put o.dst v) w') :
  if Region.wanted o (yielded ops.toArray a.tmps) then o.wpIn (wR ro) 0 E.P a w next Q else next (a.put o.dst undef) w := by
 have htl : ∀ tags : List (Nat × Bool), (∀ j w, (j, w) ∈ tags → yG ops.toArray a j w) → ∀ i, rep ρ M noG ((t.map (ungrd tags)).getD i .unk) (a.eval (.tmp i)) := by
  intro tags ht i
  rw [map_getD _ rfl]
  exact rep_ungrd ht (T.at_ i)
 unfold stepX at he
 split at he
 · rename_i hg
   have hw : Region.wanted o (yielded ops.toArray a.tmps) = true := by simp [Region.wanted, hg]
   rw [if_pos hw]
   split at he
   · rename_i c x y hpick
     split at he
     · rename_i z hz
       simp only [Option.some.injEq, Prod.mk.injEq] at he
       obtain ⟨rfl, rfl, rfl⟩ := he
       obtain ⟨b, hc, hr⟩ := evPick_run T (fun _ _ h => by cases h) hz
       refine wpIn_of (isPick_notDefer hpick) ?_
       unfold Oper.wp
       rw [pick_exec (isPick_inv hpick) hc]
       exact hnext _ w ρ M (Loc.only_refl _ _) (Mem.le_refl _) H (repS_clean hr)
     · cases he
   · split at he
     · rename_i x effs' need hev
       simp only [Option.some.injEq, Prod.mk.injEq] at he
       obtain ⟨rfl, rfl, rfl⟩ := he
       refine wpIn_of (evOp_notDefer hev) (evOpF_sound hK hev hp H hle hfr (htl [] (fun _ _ h => by cases h)) next Q ?_)
       intro v w' ρ' M' h1 h2 h3 h4
       exact hnext _ w' ρ' M' h1 h2 h3 (repS_clean h4)
     · cases he
 · rename_i g hg
   split at he
   · cases he
   · rename_i hdst
     have hG : ∀ v, yG ops.toArray (a.put o.dst v) g.1 g.2 ↔ yG ops.toArray a g.1 g.2 := by
      intro v
      cases hd : o.dst with
      | none => exact Iff.rfl
      | some d =>
       have : (ops.toArray[g.1]?).bind (·.dst) ≠ some d := by rw [hd] at hdst; simpa using hdst
       simp only [yG, yielded_put this]
     by_cases hwant : yG ops.toArray a g.1 g.2
     · have hw : Region.wanted o (yielded ops.toArray a.tmps) = true := by
         simp only [Region.wanted, hg]
         simpa [yG] using hwant
       rw [if_pos hw]
       have htags := tagsOf_hold T 8 g hwant
       split at he
       · rename_i c x y hpick
         split at he
         · rename_i z hz
           simp only [Option.some.injEq, Prod.mk.injEq] at he
           obtain ⟨rfl, rfl, rfl⟩ := he
           obtain ⟨b, hc, hr⟩ := evPick_run T htags hz
           refine wpIn_of (isPick_notDefer hpick) ?_
           unfold Oper.wp
           rw [pick_exec (isPick_inv hpick) hc]
           exact hnext _ w ρ M (Loc.only_refl _ _) (Mem.le_refl _) H (.inl ⟨(hG _).2 hwant, hr⟩)
         · cases he
       · split at he
         · rename_i x need hev
           simp only [Option.some.injEq, Prod.mk.injEq] at he
           obtain ⟨rfl, rfl, rfl⟩ := he
           refine wpIn_of (evOpG_notDefer hev) (evOpG_sound hK hev (fun q hq => hp _ (List.mem_map_of_mem hq) (condP_hold T 8 g hwant)) H hle hfr (htl _ htags) next Q ?_)
           intro v w' ρ' M' h1 h2 h3 h4
           exact hnext _ w' ρ' M' h1 h2 h3 (.inl ⟨(hG _).2 hwant, h4⟩)
         · cases he
     · have hw : ¬ Region.wanted o (yielded ops.toArray a.tmps) = true := by
         simp only [Region.wanted, hg]
         simpa [yG] using hwant
       rw [if_neg hw]
       split at he
       · split at he
         · simp only [Option.some.injEq, Prod.mk.injEq] at he
           obtain ⟨rfl, rfl, rfl⟩ := he
           exact hnext _ w ρ M (Loc.only_refl _ _) (Mem.le_refl _) H (.inr ⟨fun h => hwant ((hG _).1 h), rfl⟩)
         · cases he
       · split at he
         · simp only [Option.some.injEq, Prod.mk.injEq] at he
           obtain ⟨rfl, rfl, rfl⟩ := he
           exact hnext _ w ρ M (Loc.only_refl _ _) (Mem.le_refl _) H (.inr ⟨fun h => hwant ((hG _).1 h), rfl⟩)
         · cases he
end

def tmpsOf (xs : List Operand) : List Nat := xs.filterMap fun | .tmp d => some d | _ => none
def guardSlots (ops : List Oper) : Nat → Option (Nat × Bool) → List Nat
 | 0, _ => []
 | _, none => []
 | n + 1, some (j, _) => match ops[j]? with
  | some o => o.dst.toList ++ guardSlots ops n o.guard
  | none => []
def accOf (ops : List Oper) (o : Oper) : List Nat := tmpsOf o.op.operands.toList ++ guardSlots ops 8 o.guard
mutual
def idsOf : AV → List Nat
 | .ptr id _ => [id]
 | .vec id => [id]
 | .evp id _ _ _ => [id]
 | .vsub id _ _ _ => [id]
 | .yld id => [id]
 | .map id => [id]
 | .mapq _ id n => [id, n]
 | .agg cs => idsOfL cs
 | .fn _ cs => idsOfL cs
 | .grd _ _ x => idsOf x
 | _ => []
def idsOfL : List AV → List Nat
 | [] => []
 | x :: xs => idsOf x ++ idsOfL xs
end
def idsO : AObj → List Nat
 | .cells _ cs => idsOfL cs
 | _ => []
def idsDeep (h : List AObj) : Nat → List Nat → List Nat
 | 0, l => l
 | n + 1, l => match l.flatMap fun i => idsO (hget h i) with
  | [] => l
  | m => l ++ idsDeep h n m
def keepT (acc : List Nat) (t : List AV) : List AV := t.zipIdx.map fun x => if acc.contains x.2 then x.1 else .unk
def keepH (ids : List Nat) (h : List AObj) : List AObj := h.zipIdx.map fun x => if ids.contains x.2 then x.1 else .dead
structure Rec where
 dst : Option Tmp
 X : AV
 effs : Eff
 p : List Prop
 acc : List Nat
 ids : List Nat
 nid : Nat
def setT (t : List AV) (dst : Option Tmp) (X : AV) : List AV := match dst with
 | some d => t.set d X
 | none => t
def looks (o : Oper) : Nat := match o.op with
 | .move _ | .assign _ | .nilCheck _ | .fieldAddr _ _ _ => 0
 | _ => 4
def recOf (E : Env) (ops : List Oper) (o : Oper) (s : St) : Option Rec :=
 let acc := accOf ops o
 let t := keepT acc s.t
 let ids := idsDeep s.h (looks o) (idsOfL (acc.map fun d => s.t.getD d .unk))
 match stepX E ops o t (keepH ids s.h) s.h.length with
 | some (p, X, effs) => some ⟨o.dst, X, effs, p, acc, ids, s.h.length⟩
 | none => none
def runX (E : Env) (ops : List Oper) : List Oper → St → Option (List Rec × St)
 | [], s => some ([], s)
 | o :: r, s => match recOf E ops o s with
  | some R => match runX E ops r ⟨setT s.t R.dst R.X, applyEff s.h R.effs⟩ with
   | some (Rs, s') => some (R :: Rs, s')
   | none => none
  | none => none
def indep (x y : Rec) : Bool :=
 (match x.dst with | some d => !y.acc.contains d && y.dst != some d | none => true) && (match y.dst with | some d => !x.acc.contains d | none => true) &&
 (x.effs.all fun e => !y.ids.contains e.1 && y.effs.all fun f => f.1 != e.1) && (y.effs.all fun e => !x.ids.contains e.1)
def before : List Oper → List Nat → List Nat
 | [], acc => acc
 | o :: r, acc => before r (acc ++ [o.after.toList.foldl (fun s e => if Region.binds .any e then s ||| 2 ^ e.on ||| acc.getD e.on 0 else s) 0])
def pairsOk (Rs : List Rec) (bs : List Nat) : Bool :=
 (List.range Rs.length).all fun j => (List.range j).all fun i => (bs.getD j 0).testBit i || (match Rs[i]?, Rs[j]? with | some x, some y => indep x y | _, _ => false)
def edgesBack (ops : List Oper) : Bool := ops.zipIdx.all fun o => o.1.after.toList.all fun e => !Region.binds .any e || decide (e.on < o.2)
def grdOk (Rs : List Rec) (bs : List Nat) : Bool :=
 (List.range Rs.length).all fun k => match Rs[k]? with
   | some R => match R.X with
    | .grd j _ _ => (bs.getD k 0).testBit j && (List.range Rs.length).all fun i => i == j || (match Rs[i]?, Rs[j]? with | some x, some y => x.dst != y.dst || x.dst == none | _, _ => false)
    | _ => true
   | none => true
def evDraw (E : Env) (ops : List Oper) (s : St) : Option (List Prop × St) :=
 match runX E ops ops (cleanS s) with
 | some (Rs, s') => if E.P.follows .mixedOrders && edgesBack ops && pairsOk Rs (before ops []) && grdOk Rs (before ops []) then some ((Rs.map (·.p)).flatten, cleanS s') else none
 | none => none

def stOf (S : Nat → Bool) : List Rec → Nat → St → St
 | [], _, s => s
 | R :: Rs, k, s => stOf S Rs (k + 1) (if S k then ⟨setT s.t R.dst R.X, applyEff s.h R.effs⟩ else s)
theorem stOf_congr {S S' : Nat → Bool} : ∀ (Rs : List Rec) (k : Nat) (s : St), (∀ j, k ≤ j → j < k + Rs.length → S j = S' j) → stOf S Rs k s = stOf S' Rs k s
 | [], _, _, _ => rfl
 | R :: Rs, k, s, h => by
  simp only [stOf]
  rw [h k (Nat.le_refl _) (by simp), stOf_congr Rs (k + 1) _ fun j h1 h2 => h j (by omega) (by simp at h2 ⊢; omega)]
theorem stOf_len (S : Nat → Bool) : ∀ (Rs : List Rec) (k : Nat) (s : St), (stOf S Rs k s).t.length = s.t.length
 | [], _, _ => rfl
 | R :: Rs, k, s => by
  simp only [stOf]
  rw [stOf_len S Rs (k + 1)]
  split
  · unfold setT; split <;> simp
  · rfl
theorem hget_applyEff (effs : Eff) : ∀ (h : List AObj) (id : Nat), (∀ e ∈ effs, e.1 ≠ id) → hget (applyEff h effs) id = hget h id := by
 induction effs with
 | nil => intro h id _; rfl
 | cons e effs ih =>
  intro h id hne
  show hget (applyEff (hset h e.1 e.2) effs) id = _
  rw [ih _ id (fun f hf => hne f (List.mem_cons_of_mem _ hf)), hget_hset, if_neg (hne e List.mem_cons_self)]
theorem hget_applyEff_congr (effs : Eff) : ∀ (h h' : List AObj) (id : Nat), hget h id = hget h' id → hget (applyEff h effs) id = hget (applyEff h' effs) id := by
 induction effs with
 | nil => intro h h' id hh; exact hh
 | cons e effs ih =>
  intro h h' id hh
  refine ih _ _ id ?_
  rw [hget_hset, hget_hset, hh]
theorem stOf_slot {S S' : Nat → Bool} {d : Nat} : ∀ (Rs : List Rec) (k : Nat) (s s' : St), (∀ j R, Rs[j]? = some R → R.dst = some d → S (k + j) = S' (k + j)) → s.t.length = s'.t.length → s.t.getD d .unk = s'.t.getD d .unk →
  (stOf S Rs k s).t.getD d .unk = (stOf S' Rs k s').t.getD d .unk
 | [], _, _, _, _, _, h => h
 | R :: Rs, k, s, s', hS, hl, h => by
  simp only [stOf]
  have hlen : ∀ (b : Bool) (s : St), (if b then (⟨setT s.t R.dst R.X, applyEff s.h R.effs⟩ : St) else s).t.length = s.t.length := by
   intro b s; cases b
   · rfl
   · simp only [if_true]; unfold setT; split <;> simp
  refine stOf_slot Rs (k + 1) _ _ (fun j R' hj hd => by rw [show k + 1 + j = k + (j + 1) from by omega]; exact hS (j + 1) R' (by simpa using hj) hd) (by rw [hlen, hlen, hl]) ?_
  by_cases hd : R.dst = some d
  · have := hS 0 R rfl hd
    rw [Nat.add_zero] at this
    rw [this]
    split
    · simp only [setT, hd]; rw [set_getD, set_getD, hl, h]
    · exact h
  · have key : ∀ (b : Bool) (s : St), (if b then (⟨setT s.t R.dst R.X, applyEff s.h R.effs⟩ : St) else s).t.getD d .unk = s.t.getD d .unk := by
      intro b s; cases b
      · rfl
      · simp only [if_true]
        unfold setT
        split
        · rename_i e he
          rw [set_getD, if_neg]
          rintro ⟨rfl, _⟩
          exact hd he
        · rfl
    rw [key, key, h]
theorem stOf_obj {S S' : Nat → Bool} {id : Nat} : ∀ (Rs : List Rec) (k : Nat) (s s' : St), (∀ j R, Rs[j]? = some R → (∃ e ∈ R.effs, e.1 = id) → S (k + j) = S' (k + j)) → hget s.h id = hget s'.h id →
  hget (stOf S Rs k s).h id = hget (stOf S' Rs k s').h id
 | [], _, _, _, _, h => h
 | R :: Rs, k, s, s', hS, h => by
  simp only [stOf]
  refine stOf_obj Rs (k + 1) _ _ (fun j R' hj hd => by rw [show k + 1 + j = k + (j + 1) from by omega]; exact hS (j + 1) R' (by simpa using hj) hd) ?_
  by_cases hd : ∃ e ∈ R.effs, e.1 = id
  · have := hS 0 R rfl hd
    rw [Nat.add_zero] at this
    rw [this]
    split
    · exact hget_applyEff_congr _ _ _ _ h
    · exact h
  · have key : ∀ (b : Bool) (s : St), hget (if b then (⟨setT s.t R.dst R.X, applyEff s.h R.effs⟩ : St) else s).h id = hget s.h id := by
      intro b s; cases b
      · rfl
      · exact hget_applyEff _ _ _ fun e he hh => hd ⟨e, he, hh⟩
    rw [key, key, h]
theorem len_applyEff (effs : Eff) : ∀ (h : List AObj), h.length ≤ (applyEff h effs).length ∧ ∀ e ∈ effs, e.1 < (applyEff h effs).length := by
 induction effs with
 | nil => intro h; simp [applyEff]
 | cons e effs ih =>
  intro h
  show h.length ≤ (applyEff (hset h e.1 e.2) effs).length ∧ ∀ f ∈ e :: effs, f.1 < (applyEff (hset h e.1 e.2) effs).length
  obtain ⟨h1, h2⟩ := ih (hset h e.1 e.2)
  rw [length_hset] at h1
  refine ⟨by omega, fun f hf => ?_⟩
  rcases List.mem_cons.1 hf with rfl | hf
  · omega
  · exact h2 f hf
theorem len_applyEff_le (effs : Eff) : ∀ (h : List AObj) (n : Nat), h.length ≤ n → (∀ e ∈ effs, e.1 < n) → (applyEff h effs).length ≤ n := by
 induction effs with
 | nil => intro h n hn _; exact hn
 | cons e effs ih =>
  intro h n hn he
  refine ih _ n ?_ fun f hf => he f (List.mem_cons_of_mem _ hf)
  rw [length_hset]
  have := he e List.mem_cons_self
  omega
theorem stOf_hlen {S S' : Nat → Bool} : ∀ (Rs : List Rec) (k : Nat) (s s' : St), (∀ j, S j = true → S' j = true) → s.h.length ≤ s'.h.length → (stOf S Rs k s).h.length ≤ (stOf S' Rs k s').h.length
 | [], _, _, _, _, h => h
 | R :: Rs, k, s, s', hS, h => by
  simp only [stOf]
  refine stOf_hlen Rs (k + 1) _ _ hS ?_
  cases hk : S k with
  | true =>
   rw [hS k hk]
   simp only [if_true]
   exact len_applyEff_le _ _ _ (Nat.le_trans h (len_applyEff _ _).1) (len_applyEff _ _).2
  | false =>
   simp only [Bool.false_eq_true, if_false]
   split
   · exact Nat.le_trans h (len_applyEff _ _).1
   · exact h
theorem stOf_hlen_ge (S : Nat → Bool) : ∀ (Rs : List Rec) (k : Nat) (s : St), s.h.length ≤ (stOf S Rs k s).h.length
 | [], _, _ => Nat.le_refl _
 | R :: Rs, k, s => by
  simp only [stOf]
  refine Nat.le_trans ?_ (stOf_hlen_ge S Rs (k + 1) _)
  split
  · exact (len_applyEff _ _).1
  · exact Nat.le_refl _
theorem stOf_eff_lt {S : Nat → Bool} : ∀ (Rs : List Rec) (k : Nat) (s : St) (j : Nat) (R : Rec), Rs[j]? = some R → S (k + j) = true → ∀ e ∈ R.effs, e.1 < (stOf S Rs k s).h.length
 | [], _, _, _, _, h, _, _, _ => by simp at h
 | R :: Rs, k, s, 0, R', h, hS, e, he => by
  simp only [List.getElem?_cons_zero, Option.some.injEq] at h
  subst h
  simp only [stOf]
  rw [Nat.add_zero] at hS
  rw [hS]
  refine Nat.lt_of_lt_of_le ?_ (stOf_hlen_ge S Rs (k + 1) _)
  exact (len_applyEff _ _).2 e he
 | R :: Rs, k, s, j + 1, R', h, hS, e, he => by
  simp only [stOf]
  exact stOf_eff_lt Rs (k + 1) _ j R' (by simpa using h) (by rw [show k + 1 + j = k + (j + 1) from by omega]; exact hS) e he
theorem stOf_from {S : Nat → Bool} {d : Nat} : ∀ (Rs : List Rec) (k : Nat) (s : St), (stOf S Rs k s).t.getD d .unk = s.t.getD d .unk ∨ ∃ j R, Rs[j]? = some R ∧ S (k + j) = true ∧ R.dst = some d ∧ (stOf S Rs k s).t.getD d .unk = R.X
 | [], _, _ => .inl rfl
 | R :: Rs, k, s => by
  simp only [stOf]
  rcases stOf_from (S := S) (d := d) Rs (k + 1) (if S k then ⟨setT s.t R.dst R.X, applyEff s.h R.effs⟩ else s) with h | ⟨j, R', h1, h2, h3, h4⟩
  · rw [h]
    cases hk : S k with
    | false => exact .inl rfl
    | true =>
     simp only [if_true]
     unfold setT
     split
     · rename_i e he
       rw [set_getD]
       split
       · rename_i hh
         exact .inr ⟨0, R, rfl, by simpa using hk, by rw [he, hh.1], rfl⟩
       · exact .inl rfl
     · exact .inl rfl
  · exact .inr ⟨j + 1, R', by simpa using h1, by rw [show k + (j + 1) = k + 1 + j from by omega]; exact h2, h3, h4⟩

theorem stOf_shift (S : Nat → Bool) : ∀ (Rs : List Rec) (k : Nat) (s : St), stOf S Rs (k + 1) s = stOf (fun j => S (j + 1)) Rs k s
 | [], _, _ => rfl
 | R :: Rs, k, s => by simp only [stOf]; exact stOf_shift S Rs (k + 1) _
theorem stOf_none {S : Nat → Bool} (h : ∀ j, S j = false) : ∀ (Rs : List Rec) (k : Nat) (s : St), stOf S Rs k s = s
 | [], _, _ => rfl
 | R :: Rs, k, s => by simp only [stOf, h k, Bool.false_eq_true, if_false]; exact stOf_none h Rs _ _
theorem runX_spec {E : Env} {ops : List Oper} : ∀ (l : List Oper) (Rs : List Rec) (s s' : St), runX E ops l s = some (Rs, s') →
  Rs.length = l.length ∧ s' = stOf (fun _ => true) Rs 0 s ∧ ∀ i o, l[i]? = some o → ∃ R, Rs[i]? = some R ∧ recOf E ops o (stOf (fun j => decide (j < i)) Rs 0 s) = some R
 | [], Rs, s, s', h => by
  simp only [runX, Option.some.injEq, Prod.mk.injEq] at h
  obtain ⟨rfl, rfl⟩ := h
  exact ⟨rfl, rfl, fun i o hi => by simp at hi⟩
 | o :: l, Rs, s, s', h => by
  simp only [runX] at h
  split at h
  · rename_i R hR
    split at h
    · rename_i Rs' s1 h1
      simp only [Option.some.injEq, Prod.mk.injEq] at h
      obtain ⟨rfl, rfl⟩ := h
      obtain ⟨e1, e2, e3⟩ := runX_spec l Rs' _ _ h1
      refine ⟨by simp [e1], ?_, fun i o' hi => ?_⟩
      · simp only [stOf, if_true]; rw [stOf_shift]; exact e2
      · cases i with
        | zero =>
         simp only [List.getElem?_cons_zero, Option.some.injEq] at hi
         subst hi
         refine ⟨R, rfl, ?_⟩
         rw [stOf_none (by intro j; simp)]
         exact hR
        | succ i =>
         obtain ⟨R', h2, h3⟩ := e3 i o' (by simpa using hi)
         refine ⟨R', by simpa using h2, ?_⟩
         simp only [stOf, Nat.zero_lt_succ, decide_true, if_true]
         rw [stOf_shift]
         have : (fun j => decide (j + 1 < i + 1)) = fun j => decide (j < i) := by funext j; simp
         rw [this]
         exact h3
    · cases h
  · cases h

def mask (acc : List Nat) (o : Oper) : Nat := o.after.toList.foldl (fun s e => if Region.binds .any e then s ||| 2 ^ e.on ||| acc.getD e.on 0 else s) 0
theorem before_spec : ∀ (r : List Oper) (acc : List Nat), ∃ ext, before r acc = acc ++ ext ∧ ext.length = r.length ∧ ∀ i o, r[i]? = some o → ext[i]? = some (mask ((acc ++ ext).take (acc.length + i)) o)
 | [], acc => ⟨[], by simp [before], rfl, fun i o h => by simp at h⟩
 | o :: r, acc => by
  obtain ⟨ext, h1, h2, h3⟩ := before_spec r (acc ++ [mask acc o])
  refine ⟨mask acc o :: ext, ?_, by simp [h2], fun i o' hi => ?_⟩
  · show before r (acc ++ [mask acc o]) = _
    rw [h1]; simp
  · cases i with
    | zero =>
     simp only [List.getElem?_cons_zero, Option.some.injEq] at hi ⊢
     subst hi
     simp
    | succ i =>
     have := h3 i o' (by simpa using hi)
     simp only [List.getElem?_cons_succ]
     rw [this]
     simp only [List.append_assoc, List.singleton_append, List.length_append, List.length_singleton]
     rw [show acc.length + 1 + i = acc.length + (i + 1) from by omega]
theorem mask_bit {acc : List Nat} {j : Nat} : ∀ (es : List Edge) (m : Nat), (es.foldl (fun s e => if Region.binds .any e then s ||| 2 ^ e.on ||| acc.getD e.on 0 else s) m).testBit j = true →
  m.testBit j = true ∨ ∃ e ∈ es, Region.binds .any e = true ∧ (e.on = j ∨ (acc.getD e.on 0).testBit j = true)
 | [], m, h => .inl h
 | e :: es, m, h => by
  simp only [List.foldl_cons] at h
  rcases mask_bit es _ h with h | ⟨f, hf, hb, hh⟩
  · split at h
    · rename_i hb
      simp only [Nat.testBit_or, Nat.testBit_two_pow, Bool.or_eq_true, decide_eq_true_eq] at h
      rcases h with (h | h) | h
      · exact .inl h
      · exact .inr ⟨e, List.mem_cons_self, hb, .inl h⟩
      · exact .inr ⟨e, List.mem_cons_self, hb, .inr h⟩
    · exact .inl h
  · exact .inr ⟨f, List.mem_cons_of_mem _ hf, hb, hh⟩
theorem before_holds {ops : List Oper} {S : Nat → Bool} (hcl : ∀ i o, ops[i]? = some o → S i = true → ∀ e ∈ o.after, Region.binds .any e = true → S e.on = true) :
  ∀ (i : Nat) (o : Oper), ops[i]? = some o → (∀ e ∈ o.after, Region.binds .any e = true → S e.on = true) → ∀ j, ((before ops []).getD i 0).testBit j = true → S j = true := by
 obtain ⟨ext, h1, h2, h3⟩ := before_spec ops []
 simp only [List.nil_append] at h1
 rw [h1]
 intro i
 induction i using Nat.strongRecOn with
 | _ i ih =>
  intro o ho hdep j hj
  have := h3 i o ho
  rw [List.getD_eq_getElem?_getD, this] at hj
  simp only [Option.getD_some, List.nil_append, List.length_nil, Nat.zero_add, mask] at hj
  rcases mask_bit _ _ hj with h | ⟨e, he, hb, hh⟩
  · simp at h
  · have hS := hdep e (by simpa using he) hb
    rcases hh with rfl | hh
    · exact hS
    · rcases Nat.lt_or_ge e.on i with hlt | hge
      · have hg : (ext.take i).getD e.on 0 = ext.getD e.on 0 := by simp [List.getD_eq_getElem?_getD, List.getElem?_take_of_lt hlt]
        rw [hg] at hh
        have hlen : e.on < ops.length := by have := (List.getElem?_eq_some_iff.1 ho).1; omega
        exact ih e.on hlt ops[e.on] (List.getElem?_eq_getElem hlen) (hcl e.on _ (List.getElem?_eq_getElem hlen) hS) j hh
      · have hg : (ext.take i).getD e.on 0 = 0 := by simp [List.getD_eq_getElem?_getD, List.getElem?_take_eq_none hge]
        rw [hg] at hh
        simp at hh

theorem stOf_succ : ∀ (Rs : List Rec) (i : Nat) (R : Rec) (s : St), Rs[i]? = some R → stOf (fun j => decide (j < i + 1)) Rs 0 s =
  ⟨setT (stOf (fun j => decide (j < i)) Rs 0 s).t R.dst R.X, applyEff (stOf (fun j => decide (j < i)) Rs 0 s).h R.effs⟩
 | [], i, R, s, h => by simp at h
 | R' :: Rs, 0, R, s, h => by
  simp only [List.getElem?_cons_zero, Option.some.injEq] at h
  subst h
  rw [stOf_none (S := fun j => decide (j < 0)) (by intro j; simp)]
  simp only [stOf, Nat.zero_add, Nat.lt_one_iff, decide_true, if_true]
  rw [stOf_shift, stOf_none (by intro j; simp)]
 | R' :: Rs, i + 1, R, s, h => by
  simp only [stOf, Nat.zero_lt_succ, decide_true, if_true]
  rw [stOf_shift, stOf_shift]
  have e1 : (fun j => decide (j + 1 < i + 1 + 1)) = fun j => decide (j < i + 1) := by funext j; simp
  have e2 : (fun j => decide (j + 1 < i + 1)) = fun j => decide (j < i) := by funext j; simp
  rw [e1, e2]
  exact stOf_succ Rs i R _ (by simpa using h)
theorem keepT_getD (acc : List Nat) (t : List AV) (d : Nat) : (keepT acc t).getD d .unk = if acc.contains d then t.getD d .unk else .unk := by
 unfold keepT
 simp only [List.getD_eq_getElem?_getD, List.getElem?_map, List.getElem?_zipIdx]
 cases t[d]? <;> simp
theorem keepH_get (ids : List Nat) (h : List AObj) (i : Nat) : hget (keepH ids h) i = if ids.contains i then hget h i else .dead := by
 unfold keepH hget
 simp only [List.getD_eq_getElem?_getD, List.getElem?_map, List.getElem?_zipIdx]
 cases h[i]? <;> simp
theorem SimH.congr {B : Nat → Prop} {w0 w : World} {M0 M : Mem} {h h' : List AObj} {ρ : Loc} (H : SimH B w0 M0 h w ρ M) (he : ∀ id, hget h' id = hget h id) (hf : ∀ id, h'.length ≤ id → ρ id = none) : SimH B w0 M0 h' w ρ M :=
 ⟨fun id => by rw [he]; exact H.obj id, hf, H.own, H.mem, H.old, H.below, H.size, H.good⟩

theorem filter_le {p q : Nat → Bool} (hle : ∀ j, q j = true → p j = true) : ∀ l : List Nat, (l.filter q).length ≤ (l.filter p).length
 | [] => Nat.le_refl _
 | y :: l => by
  have ih := filter_le hle l
  cases hq : q y with
  | true => rw [List.filter_cons_of_pos hq, List.filter_cons_of_pos (hle y hq)]; simp only [List.length_cons]; omega
  | false =>
   rw [List.filter_cons_of_neg (by rw [hq]; simp)]
   cases hp : p y with
   | true => rw [List.filter_cons_of_pos hp]; simp only [List.length_cons]; omega
   | false => rw [List.filter_cons_of_neg (by rw [hp]; simp)]; exact ih
theorem filter_lt {p q : Nat → Bool} {i : Nat} : ∀ (l : List Nat), i ∈ l → p i = true → q i = false → (∀ j, q j = true → p j = true) → (l.filter q).length < (l.filter p).length
 | [], h, _, _, _ => by cases h
 | x :: l, h, hp, hq, hle => by
  rcases List.mem_cons.1 h with rfl | h
  · rw [List.filter_cons_of_pos hp, List.filter_cons_of_neg (by rw [hq]; simp)]
    have := filter_le hle l
    simp only [List.length_cons]
    omega
  · have ih := filter_lt l h hp hq hle
    cases hq' : q x with
    | true => rw [List.filter_cons_of_pos hq', List.filter_cons_of_pos (hle x hq')]; simp only [List.length_cons]; omega
    | false =>
     rw [List.filter_cons_of_neg (by rw [hq']; simp)]
     cases hp' : p x with
     | true => rw [List.filter_cons_of_pos hp']; simp only [List.length_cons]; omega
     | false => rw [List.filter_cons_of_neg (by rw [hp']; simp)]; exact ih

section
variable {E : Env} {B : Nat → Prop} {w0 : World} {M0 : Mem} {ops : List Oper} {Rs : List Rec} {s0 : St}
theorem draw_any (hK : KOk E) (hlen : Rs.length = ops.length) (hspec : ∀ i o, ops[i]? = some o → ∃ R, Rs[i]? = some R ∧ recOf E ops o (stOf (fun j => decide (j < i)) Rs 0 s0) = some R)
  (hclean : ∀ d j b x, s0.t.getD d .unk ≠ .grd j b x) (hback : edgesBack ops = true) (hpairs : pairsOk Rs (before ops []) = true) (hgrd : grdOk Rs (before ops []) = true) (hp : ∀ R ∈ Rs, ∀ q ∈ R.p, q)
  (Ms : Mem) (ρs : Loc) (Q : Exit → Act → World → Prop) (hQ : ∀ a w ρ M, ρs.le ρ → Ms.le M → SimH B w0 M0 (stOf (fun _ => true) Rs 0 s0).h w ρ M → SimT D ρ M (yG ops.toArray a) (stOf (fun _ => true) Rs 0 s0).t a → Q .normal a w) :
  ∀ (fuel : Nat) (listed : Array Bool) (a : Act) (w : World) (ρ : Loc) (M : Mem), listed.size = ops.length →
   (∀ i o, ops[i]? = some o → listed.getD i false = true → ∀ e ∈ o.after, Region.binds .any e = true → listed.getD e.on false = true) →
   ((List.range ops.length).filter fun j => !listed.getD j false).length ≤ fuel →
   SimH B w0 M0 (stOf (fun j => listed.getD j false) Rs 0 s0).h w ρ M → SimT D ρ M (yG ops.toArray a) (stOf (fun j => listed.getD j false) Rs 0 s0).t a →
   (∀ j R, Rs[j]? = some R → listed.getD j false = false → ∀ e ∈ R.effs, R.nid ≤ e.1 → ρ e.1 = none) → ρs.le ρ → Ms.le M →
   wpAnyIn (wR ro) 0 E.P .any ops.toArray Q fuel listed a w := by
 have hpair : ∀ i j x y, i < j → Rs[i]? = some x → Rs[j]? = some y → ((before ops []).getD j 0).testBit i = true ∨ indep x y = true := by
  intro i j x y hij hx hy
  have hj : j < Rs.length := (List.getElem?_eq_some_iff.1 hy).1
  have := List.all_eq_true.1 (List.all_eq_true.1 hpairs j (List.mem_range.2 hj)) i (List.mem_range.2 hij)
  simpa [hx, hy] using this
 intro fuel
 induction fuel with
 | zero =>
  intro listed a w ρ M hsz _ hcnt H T _ hρs hM
  have hall : ∀ j, j < ops.length → listed.getD j false = true := by
   intro j hj
   cases hb : listed.getD j false with
   | true => rfl
   | false =>
    have : j ∈ (List.range ops.length).filter fun j => !listed.getD j false := List.mem_filter.2 ⟨List.mem_range.2 hj, by rw [hb]; rfl⟩
    have := List.length_pos_of_mem this
    omega
  have hst : stOf (fun j => listed.getD j false) Rs 0 s0 = stOf (fun _ => true) Rs 0 s0 := stOf_congr Rs 0 s0 fun j _ hj => hall j (by omega)
  refine ⟨?_, hQ a w ρ M hρs hM (hst ▸ H) (hst ▸ T)⟩
  cases hr : Region.ready .any ops.toArray listed with
  | nil => rfl
  | cons i r =>
   have hm : i ∈ Region.ready .any ops.toArray listed := by rw [hr]; exact List.mem_cons_self
   obtain ⟨h1, o, ho, _⟩ := mem_ready.1 hm
   have hi : i < ops.length := by have := (Array.getElem?_eq_some_iff.1 ho).1; simpa using this
   have := hall i hi
   rw [Array.getD_eq_getD_getElem?] at h1 this
   rw [Array.getElem?_eq_getElem (by omega)] at h1 this
   simp at h1 this
   rw [h1] at this
   cases this
 | succ fuel ih =>
  intro listed a w ρ M hsz hcl hcnt H T hnew hρs hM
  refine ⟨fun h0 => ?_, fun i hi => ?_⟩
  ·
   have hall : ∀ j, j < ops.length → listed.getD j false = true := by
    intro j
    induction j using Nat.strongRecOn with
    | _ j ihj =>
     intro hj
     cases hb : listed.getD j false with
     | true => rfl
     | false =>
      have hm : j ∈ Region.ready .any ops.toArray listed := by
       refine mem_ready.2 ⟨?_, ops[j], by simp [hj], fun e he hbind => ?_⟩
       · rw [Array.getD_eq_getD_getElem?] at hb ⊢
         rw [Array.getElem?_eq_getElem (by omega)] at hb ⊢
         simpa using hb
       · have hz : (ops[j], j) ∈ ops.zipIdx := by rw [List.mem_zipIdx_iff_getElem?]; simp [hj]
         have := List.all_eq_true.1 (List.all_eq_true.1 hback _ hz) e (by simpa using he)
         simp only [hbind, Bool.not_true, Bool.false_or, decide_eq_true_eq] at this
         exact ihj e.on this (by omega)
      rw [h0] at hm
      cases hm
   have hst : stOf (fun j => listed.getD j false) Rs 0 s0 = stOf (fun _ => true) Rs 0 s0 := stOf_congr Rs 0 s0 fun j _ hj => hall j (by omega)
   exact hQ a w ρ M hρs hM (hst ▸ H) (hst ▸ T)
  · obtain ⟨h1, o, ho, hdep⟩ := mem_ready.1 hi
    have hil : i < ops.length := by have := (Array.getElem?_eq_some_iff.1 ho).1; simpa using this
    have ho' : ops[i]? = some o := by simpa using ho
    have hSi : listed.getD i false = false := by
     rw [Array.getD_eq_getD_getElem?] at h1 ⊢
     rw [Array.getElem?_eq_getElem (by omega)] at h1 ⊢
     simpa using h1
    obtain ⟨R, hRi, hrec⟩ := hspec i o ho'
    have hdepS : ∀ e ∈ o.after, Region.binds .any e = true → listed.getD e.on false = true := hdep

    have hord : ∀ j R', Rs[j]? = some R' → j ≠ i → (j < i → ¬ indep R' R = true) → (i < j → ¬ indep R R' = true) → listed.getD j false = decide (j < i) := by
     intro j R' hj hne h1 h2
     rcases Nat.lt_or_ge j i with hlt | hge
     · rw [decide_eq_true hlt]
       rcases hpair j i R' R hlt hj hRi with hb | hb
       · exact before_holds (S := fun j => listed.getD j false) hcl i o ho' hdepS j hb
       · exact absurd hb (h1 hlt)
     · have hlt : i < j := by omega
       rw [decide_eq_false (by omega)]
       rcases hpair i j R R' hlt hRi hj with hb | hb
       · cases hbj : listed.getD j false with
         | false => rfl
         | true =>
          have hjl : j < ops.length := by have := (List.getElem?_eq_some_iff.1 hj).1; omega
          have := before_holds (S := fun j => listed.getD j false) hcl j ops[j] (List.getElem?_eq_getElem hjl) (hcl j _ (List.getElem?_eq_getElem hjl) hbj) i hb
          simp only [hSi] at this
          cases this
       · exact absurd hb (h2 hlt)
    have hA : ∀ d, (R.acc.contains d = true ∨ R.dst = some d) → ∀ j R', Rs[j]? = some R' → R'.dst = some d → j ≠ i → listed.getD j false = decide (j < i) := by
     intro d hd j R' hj hdst hne
     refine hord j R' hj hne (fun _ hin => ?_) (fun _ hin => ?_)
     · simp only [indep, Bool.and_eq_true, hdst] at hin
       rcases hd with hd | hd
       · have := hin.1.1.1.1; rw [hd] at this; cases this
       · have := hin.1.1.1.2; rw [hd] at this; simp at this
     · simp only [indep, Bool.and_eq_true, hdst] at hin
       rcases hd with hd | hd
       · have := hin.1.1.2; rw [hd] at this; cases this
       · have := hin.1.1.1; rw [hd] at this; simp at this
    have hB : ∀ id, (R.ids.contains id = true ∨ ∃ e ∈ R.effs, e.1 = id) → ∀ j R', Rs[j]? = some R' → (∃ e ∈ R'.effs, e.1 = id) → j ≠ i → listed.getD j false = decide (j < i) := by
     intro id hid j R' hj heff hne
     obtain ⟨e, he, rfl⟩ := heff
     refine hord j R' hj hne (fun _ hin => ?_) (fun _ hin => ?_)
     · simp only [indep, Bool.and_eq_true] at hin
       have := List.all_eq_true.1 hin.1.2 e he
       simp only [Bool.and_eq_true] at this
       rcases hid with hd | ⟨f, hf, hfe⟩
       · have := this.1; rw [hd] at this; cases this
       · have := List.all_eq_true.1 this.2 f hf; simp [hfe] at this
     · simp only [indep, Bool.and_eq_true] at hin
       rcases hid with hd | ⟨f, hf, hfe⟩
       · have := List.all_eq_true.1 hin.2 e he; rw [hd] at this; cases this
       · have := List.all_eq_true.1 hin.1.2 f hf
         simp only [Bool.and_eq_true] at this
         have := List.all_eq_true.1 this.2 e he
         simp [hfe] at this

    generalize hτ : stOf (fun j => decide (j < i)) Rs 0 s0 = τ at hrec
    have hst : ∀ d, R.acc.contains d = true → (stOf (fun j => listed.getD j false) Rs 0 s0).t.getD d .unk = τ.t.getD d .unk := by
     intro d hd
     rw [← hτ]
     refine stOf_slot Rs 0 s0 s0 (fun j R' hj hdst => ?_) rfl rfl
     simp only [Nat.zero_add]
     by_cases e : j = i
     · subst e; rw [hSi]; simp
     · exact hA d (.inl hd) j R' hj hdst e
    have hso : ∀ id, (R.ids.contains id = true ∨ ∃ e ∈ R.effs, e.1 = id) → hget (stOf (fun j => listed.getD j false) Rs 0 s0).h id = hget τ.h id := by
     intro id hid
     rw [← hτ]
     refine stOf_obj Rs 0 s0 s0 (fun j R' hj heff => ?_) rfl
     simp only [Nat.zero_add]
     by_cases e : j = i
     · subst e; rw [hSi]; simp
     · exact hB id hid j R' hj heff e
    have hRmem : R ∈ Rs := List.mem_of_getElem? hRi
    have hpR := hp R hRmem
    have hnewR := hnew i R hRi hSi
    have hτlen : τ.t.length = s0.t.length := by rw [← hτ]; exact stOf_len _ _ _ _
    have hSlen : ∀ S, (stOf S Rs 0 s0).t.length = s0.t.length := fun S => stOf_len _ _ _ _

    unfold recOf at hrec
    simp only [] at hrec
    split at hrec
    case h_2 => cases hrec
    rename_i p X effs hX
    injection hrec with hrec
    have e1 : R.acc = accOf ops o := by rw [← hrec]
    have e2 : R.effs = effs := by rw [← hrec]
    have e3 : R.X = X := by rw [← hrec]
    have e4 : R.dst = o.dst := by rw [← hrec]
    have e5 : R.p = p := by rw [← hrec]
    have e6 : R.nid = τ.h.length := by rw [← hrec]
    have e7 : R.ids = idsDeep τ.h (looks o) (idsOfL ((accOf ops o).map fun d => τ.t.getD d .unk)) := by rw [← hrec]
    rw [e5] at hpR
    have hT' : SimT D ρ M (yG ops.toArray a) (keepT (accOf ops o) τ.t) a := by
     refine ⟨by rw [← T.len, hSlen]; simp [keepT, hτlen], T.defers, fun d => ?_⟩
     rw [keepT_getD]
     split
     · rename_i hd
       rw [← hst d (by rw [e1]; exact hd)]
       exact T.at_ d
     · simp [repS, rep]
    have hle : ∀ id, hget (keepH (idsDeep τ.h (looks o) (idsOfL ((accOf ops o).map fun d => τ.t.getD d .unk))) τ.h) id ≠ .dead → hget (stOf (fun j => listed.getD j false) Rs 0 s0).h id = hget (keepH (idsDeep τ.h (looks o) (idsOfL ((accOf ops o).map fun d => τ.t.getD d .unk))) τ.h) id := by
     intro id hd
     rw [keepH_get] at hd ⊢
     split at hd
     · rename_i hc
       rw [if_pos hc]
       exact hso id (.inl (by rw [e7]; exact hc))
     · exact absurd rfl hd
    have hstep := stepX_sound (ro := ro) hK hX hpR H hle (fun q hq hnid => hnewR q (by rw [e2]; exact hq) (by rw [e6]; exact hnid)) hT' (wpAnyIn (wR ro) 0 E.P .any ops.toArray Q fuel (listed.setIfInBounds i true)) Q (by
     intro v w' ρ' M' hρ hM' H' hv
     have hS'i : ∀ j, (listed.setIfInBounds i true).getD j false = (decide (j = i) || listed.getD j false) := by
      intro j
      by_cases e : j = i
      · subst e
        simp [Array.getD_eq_getD_getElem?, hsz, hil]
      · rw [getD_set_ne false (Ne.symm e)]; simp [e]
     have hsucc := stOf_succ Rs i R s0 hRi
     rw [hτ] at hsucc
     refine ih (listed.setIfInBounds i true) _ w' ρ' M' (by simp [hsz]) ?_ ?_ ?_ ?_ ?_ (Loc.le_trans hρs hρ.1) (Mem.le_trans hM hM')
     · intro j oj hj hSj e he hb
       rw [hS'i] at hSj ⊢
       by_cases ej : j = i
       · subst ej
         have : oj = o := by rw [ho'] at hj; injection hj with hj; exact hj.symm
         subst this
         rw [hdepS e he hb]; simp
       · have : listed.getD j false = true := by simpa [ej] using hSj
         rw [hcl j oj hj this e he hb]; simp
     · have := filter_lt (p := fun j => !listed.getD j false) (q := fun j => !(listed.setIfInBounds i true).getD j false) (i := i) (List.range ops.length) (List.mem_range.2 hil) (by rw [hSi]; rfl) (by rw [hS'i]; simp) (fun j hj => by
         rw [hS'i] at hj
         simp only [Bool.not_or, Bool.and_eq_true] at hj
         exact hj.2)
       omega
     ·
      refine H'.congr (fun id => ?_) (fun id hid => ?_)
      · by_cases hid : ∃ e ∈ R.effs, e.1 = id
        · have : hget (stOf (fun j => (listed.setIfInBounds i true).getD j false) Rs 0 s0).h id = hget (stOf (fun j => decide (j < i + 1)) Rs 0 s0).h id := by
            refine stOf_obj Rs 0 s0 s0 (fun j R' hj heff => ?_) rfl
            simp only [Nat.zero_add]
            rw [hS'i]
            by_cases e : j = i
            · subst e; simp
            · rw [hB id (.inr hid) j R' hj heff e]
              rw [Bool.eq_iff_iff]
              simp [e]
              omega
          rw [this, hsucc]
          simp only [e2]
          exact hget_applyEff_congr _ _ _ _ (hso id (.inr hid)).symm
        · have : hget (stOf (fun j => (listed.setIfInBounds i true).getD j false) Rs 0 s0).h id = hget (stOf (fun j => listed.getD j false) Rs 0 s0).h id := by
            refine stOf_obj Rs 0 s0 s0 (fun j R' hj heff => ?_) rfl
            simp only [Nat.zero_add]
            rw [hS'i]
            by_cases e : j = i
            · subst e
              rw [hRi] at hj
              injection hj with hj
              subst hj
              exact absurd heff hid
            · simp [e]
          rw [this, hget_applyEff]
          intro e he hh
          exact hid ⟨e, by rw [e2]; exact he, hh⟩
      · refine H'.fresh id (Nat.le_trans ?_ hid)
        refine len_applyEff_le _ _ _ ?_ ?_
        · exact stOf_hlen Rs 0 s0 s0 (fun j hj => by rw [hS'i, hj]; simp) (Nat.le_refl _)
        · intro e he
          exact stOf_eff_lt (S := fun j => (listed.setIfInBounds i true).getD j false) Rs 0 s0 i R hRi (by simp only [Nat.zero_add]; rw [hS'i]; simp) e (by rw [e2]; exact he)
     ·
      refine ⟨by rw [hSlen]; rw [show (a.put o.dst v).tmps.size = a.tmps.size from by cases o.dst <;> simp [Act.put]]; rw [← T.len, hSlen], by cases o.dst <;> exact T.defers, fun d => ?_⟩
      by_cases hd : R.dst = some d
      · have hsl : (stOf (fun j => (listed.setIfInBounds i true).getD j false) Rs 0 s0).t.getD d .unk = (stOf (fun j => decide (j < i + 1)) Rs 0 s0).t.getD d .unk := by
          refine stOf_slot Rs 0 s0 s0 (fun j R' hj hdst => ?_) rfl rfl
          simp only [Nat.zero_add]
          rw [hS'i]
          by_cases e : j = i
          · subst e; simp
          · rw [hA d (.inr hd) j R' hj hdst e]
            rw [Bool.eq_iff_iff]
            simp [e]
            omega
        rw [hsl, hsucc]
        have hdo : o.dst = some d := by rw [← e4]; exact hd
        rw [hdo] at hv ⊢
        simp only [setT, hd]
        rw [set_getD, getD_put, hτlen, ← hSlen (fun j => listed.getD j false), T.len]
        split
        · rw [e3]; exact hv
        · rename_i hn
          have h3 : a.tmps.size ≤ d := by simp only [true_and, Nat.not_lt] at hn; exact hn
          have : τ.t.getD d .unk = .unk := by
           rw [List.getD_eq_getElem?_getD, List.getElem?_eq_none (by rw [hτlen, ← hSlen (fun j => listed.getD j false), T.len]; exact h3)]; rfl
          rw [this]; simp [repS, rep]
      · have hsl : (stOf (fun j => (listed.setIfInBounds i true).getD j false) Rs 0 s0).t.getD d .unk = (stOf (fun j => listed.getD j false) Rs 0 s0).t.getD d .unk := by
          refine stOf_slot Rs 0 s0 s0 (fun j R' hj hdst => ?_) rfl rfl
          simp only [Nat.zero_add]
          rw [hS'i]
          by_cases e : j = i
          · subst e
            rw [hRi] at hj
            injection hj with hj
            subst hj
            exact absurd hdst hd
          · simp [e]
        rw [hsl]
        have hold : (a.put o.dst v).tmps.getD d undef = a.tmps.getD d undef := by
         cases hdo : o.dst with
         | none => rfl
         | some d' =>
          rw [getD_put, if_neg]
          rintro ⟨rfl, _⟩
          exact hd (by rw [e4]; exact hdo)
        rw [hold]
        have hbase := repS_mono hρ.1 hM' (T.at_ d)
        rcases stOf_from (S := fun j => listed.getD j false) (d := d) Rs 0 s0 with hfrom | ⟨j, R', hj, hSj, hdst, hval⟩
        · rw [hfrom] at hbase ⊢
          have := hclean d
          generalize s0.t.getD d .unk = y at this hbase ⊢
          cases y
          case grd j b x => exact absurd rfl (this j b x)
          all_goals exact hbase
        · rw [hval] at hbase ⊢
          simp only [Nat.zero_add] at hSj
          cases hRX : R'.X
          case grd j2 b x =>
           rw [hRX] at hbase
           have hjl : j < Rs.length := (List.getElem?_eq_some_iff.1 hj).1
           have hg := List.all_eq_true.1 hgrd j (List.mem_range.2 hjl)
           rw [hj] at hg
           simp only [hRX, Bool.and_eq_true] at hg
           have hjo : j < ops.length := by omega
           have hj2 : listed.getD j2 false = true := before_holds (S := fun j => listed.getD j false) hcl j ops[j] (List.getElem?_eq_getElem hjo) (hcl j _ (List.getElem?_eq_getElem hjo) hSj) j2 hg.1
           have hne : i ≠ j2 := fun e => by subst e; rw [hSi] at hj2; cases hj2
           have hy : yielded ops.toArray (a.put o.dst v).tmps j2 = yielded ops.toArray a.tmps j2 := by
            cases hdo : o.dst with
            | none => rfl
            | some d' =>
             refine yielded_put fun hh => ?_
             have hgi := List.all_eq_true.1 hg.2 i (List.mem_range.2 (by omega))
             have hne' : (i == j2) = false := by simp [hne]
             rw [hne', hRi] at hgi
             simp only [Bool.false_or] at hgi
             have hj2l : ∃ o2, ops[j2]? = some o2 ∧ o2.dst = some d' := by
              have : (ops[j2]?).bind (·.dst) = some d' := by simpa using hh
              cases ho2 : ops[j2]? with
              | none => rw [ho2] at this; cases this
              | some o2 => rw [ho2] at this; exact ⟨o2, rfl, this⟩
             obtain ⟨o2, ho2, hd2⟩ := hj2l
             obtain ⟨R2, hR2, hrec2⟩ := hspec j2 o2 ho2
             have hR2d : R2.dst = o2.dst := by
              unfold recOf at hrec2
              simp only [] at hrec2
              split at hrec2
              · injection hrec2 with hrec2; rw [← hrec2]
              · cases hrec2
             rw [hR2] at hgi
             simp only [e4, hdo, hR2d, hd2] at hgi
             simp at hgi
           simp only [repS, yG, hy] at hbase ⊢
           exact hbase
          all_goals (rw [hRX] at hbase; exact hbase)
     · intro j R' hj hSj e he hnid
       rw [hS'i] at hSj
       have hji : j ≠ i := fun h => by subst h; simp at hSj
       have hSj' : listed.getD j false = false := by simpa [hji] using hSj
       rw [hρ.2 e.1 (fun f hf hh => ?_)]
       · exact hnew j R' hj hSj' e he hnid
       ·
        have hfi : ∃ g ∈ R.effs, g.1 = e.1 := ⟨f, by rw [e2]; exact hf, hh⟩
        have hcmp := hB e.1 (.inr hfi) j R' hj ⟨e, he, rfl⟩ hji
        rw [hSj'] at hcmp
        have hij : i < j := by
         have : ¬ j < i := by simpa using hcmp.symm
         omega

        have hjo : j < ops.length := by have := (List.getElem?_eq_some_iff.1 hj).1; omega
        obtain ⟨R2, hR2, hrec2⟩ := hspec j ops[j] (List.getElem?_eq_getElem hjo)
        rw [hj] at hR2
        injection hR2 with hR2
        subst hR2
        have hnidj : R'.nid = (stOf (fun k => decide (k < j)) Rs 0 s0).h.length := by
         unfold recOf at hrec2
         simp only [] at hrec2
         split at hrec2
         · injection hrec2 with hrec2; rw [← hrec2]
         · cases hrec2
        have hlt := stOf_eff_lt (S := fun k => decide (k < j)) Rs 0 s0 i R hRi (by simpa using hij) f (by rw [e2]; exact hf)
        rw [hnidj] at hnid
        omega)
    unfold wpOpIn
    rw [ho]
    simp only []
    split
    · rename_i hw; rw [if_pos hw] at hstep; exact hstep
    · rename_i hw; rw [if_neg hw] at hstep; exact ⟨fun _ _ => trivial, hstep⟩

theorem evDraw_sound {w : World} {M : Mem} {ρ : Loc} {a : Act} (hK : KOk E) {id : Nat} {l : List Oper} {s s' : St} {p : List Prop} (he : evDraw E l s = some (p, s')) (hp : ∀ q ∈ p, q) (H : Sim D B w0 M0 s a w ρ M)
  (Q : Exit → Act → World → Prop) (hQ : ∀ a' w' ρ' M', ρ.le ρ' → M.le M' → Sim D B w0 M0 s' a' w' ρ' M' → Q .normal a' w') : (Code.region id l.toArray true).wpIn (wR ro) 0 E.P Q a w := by
 unfold evDraw at he
 split at he
 · rename_i Rs s1 h1
   split at he
   · rename_i hc
     simp only [Bool.and_eq_true] at hc
     obtain ⟨⟨⟨hm, hback⟩, hpairs⟩, hgrd⟩ := hc
     simp only [Option.some.injEq, Prod.mk.injEq] at he
     obtain ⟨rfl, rfl⟩ := he
     obtain ⟨hlen, hs1, hspec⟩ := runX_spec l Rs _ s1 h1
     have hnone : stOf (fun j => (Array.replicate l.length false).getD j false) Rs 0 (cleanS s) = cleanS s := stOf_none (fun j => by
      rw [Array.getD_eq_getD_getElem?, Array.getElem?_replicate]; split <;> rfl) Rs 0 _
     refine wpIn_region_any hm ?_
     have hsz : l.toArray.size = l.length := by simp
     rw [hsz]
     refine draw_any (D := D) (B := B) (w0 := w0) (M0 := M0) hK hlen hspec ?_ hback hpairs hgrd (fun R hR q hq => hp q (List.mem_flatten.2 ⟨R.p, List.mem_map.2 ⟨R, hR, rfl⟩, hq⟩)) M ρ Q ?_ l.length _ a _ ρ M (by simp) ?_ ?_ ?_ ?_ ?_ (Loc.le_refl _) (Mem.le_refl _)
     · intro d j b x
       simp only [cleanS]
       rw [map_getD _ rfl]
       generalize s.t.getD d .unk = y
       cases y <;> simp [ungrd]
     · intro a' w' ρ' M' hρ hM H' T'
       refine hQ a' w' ρ' M' hρ hM ?_
       rw [hs1]
       exact ⟨H', T'.clean⟩
     · intro i o _ hS
       rw [Array.getD_eq_getD_getElem?, Array.getElem?_replicate] at hS
       split at hS <;> cases hS
     · refine Nat.le_trans (List.length_filter_le _ _) ?_
       simp
     · rw [hnone]; exact H.h.drew
     · rw [hnone]; exact H.t.clean
     · intro j R hj _ e he hnid
       have hjl : j < l.length := by have := (List.getElem?_eq_some_iff.1 hj).1; omega
       obtain ⟨R2, hR2, hrec2⟩ := hspec j l[j] (List.getElem?_eq_getElem hjl)
       rw [hj] at hR2
       injection hR2 with hR2
       subst hR2
       have hnidj : R.nid = (stOf (fun k => decide (k < j)) Rs 0 (cleanS s)).h.length := by
        unfold recOf at hrec2
        simp only [] at hrec2
        split at hrec2
        · injection hrec2 with hrec2; rw [← hrec2]
        · cases hrec2
       refine H.h.fresh _ ?_
       have := stOf_hlen_ge (fun k => decide (k < j)) Rs 0 (cleanS s)
       have h2 : (cleanS s).h = s.h := rfl
       rw [h2] at this
       omega
   · cases he
 · cases he
end
end Go.Eng
end
section
namespace Go.Eng
open Go.RowKit (Below)
variable {D : List Deferred}

def setB (s : St) (c : Operand) (b : Bool) : St :=
 match c with
 | .tmp d => ⟨s.t.set d (.bool b), s.h⟩
 | _ => s
abbrev Loops := Nat → St → Option (St × List Nat × Tree)
def evReg (E : Env) (draw : Bool) (ops : List Oper) (s : St) : Tree := if draw then (match evDraw E ops s with
  | some ([], s') => .leaf .normal s'
  | some (p :: ps, s') => .need (p :: ps) (.leaf .normal s')
  | none => .fail) else evRegion E ops s
def evCode (E : Env) (L : Loops) : Nat → Nat → Code → St → Tree
 | 0, _, _, _ => .fail
 | n + 1, bid, c, s => match c with
  | .skip => .leaf .normal s
  | .region _ ops draw => evReg E draw ops.toList s
  | .seq x y => (evCode E L n bid x s).bind fun e s' => match e with
   | .normal => evCode E L n bid y s'
   | e => .leaf e s'
  | .cond c x y => match ungrd [] (opd s.t c) with
   | .bool b => .ask b (evCode E L n bid x (setB s c true)) (evCode E L n bid y (setB s c false))
   | _ => .fail
  | .block id x => (evCode E L n id x s).bind fun e s' => match e with
   | .exit i => if i = id then .leaf .normal s' else .leaf (.exit i) s'
   | e => .leaf e s'
  | .loop _ | .rangeFunc .. => match L bid s with
   | some (p, σ, T) => .same p σ s T
   | none => .fail
  | .exit id => .leaf (.exit id) s
  | .label _ => .leaf .normal s
  | .goto l => .leaf (.goto l) s
  | .ret => .leaf .ret s
  | .scope x => (evCode E L n bid x s).bind fun e s' => match e with
   | .goto l => match findLabel x l with
    | some rest => (evCode E L n bid rest s').bind fun e s'' => match e with
     | .goto _ => .fail
     | e => .leaf e s''
    | none => .fail
   | e => .leaf e s'
  | _ => .fail

abbrev markD (r : Nat) : Deferred := { target := .collected r, args := #[] }
structure CtxLe (D : List Deferred) (B : Nat → Prop) (w0 : World) (M0 : Mem) (D' : List Deferred) (B' : Nat → Prop) (w0' : World) (M0' : Mem) : Prop where
 marks : ∃ rs : List Nat, D' = rs.map markD ++ D ∧ rs.Nodup ∧ ∀ r ∈ rs, B' r ∧ ¬ B r ∧ w0'.heap[r]? = some (.deferred (some []))
 sub : ∀ b, B b → B' b
 keeps : Keeps B w0 w0'
 mem : ∀ b o, B b → M0' b o = M0 b o
theorem CtxLe.refl (D : List Deferred) (B : Nat → Prop) (w0 : World) (M0 : Mem) : CtxLe D B w0 M0 D B w0 M0 := ⟨⟨[], rfl, List.nodup_nil, nofun⟩, fun _ h => h, Keeps.refl _ _, fun _ _ _ => rfl⟩
theorem CtxLe.trans {D D1 D2 : List Deferred} {B B1 B2 : Nat → Prop} {w w1 w2 : World} {M M1 M2 : Mem} (h : CtxLe D B w M D1 B1 w1 M1) (k : CtxLe D1 B1 w1 M1 D2 B2 w2 M2) : CtxLe D B w M D2 B2 w2 M2 := by
 obtain ⟨rs, h1, h2, h3⟩ := h.marks
 obtain ⟨qs, k1, k2, k3⟩ := k.marks
 refine ⟨⟨qs ++ rs, by rw [k1, h1]; simp, ?_, fun r hr => ?_⟩, fun b hb => k.sub b (h.sub b hb), h.keeps.trans (k.keeps.mono h.sub), fun b o hb => (k.mem b o (h.sub b hb)).trans (h.mem b o hb)⟩
 · rw [List.nodup_append]
   exact ⟨k2, h2, fun a ha b hb e => by subst e; exact (k3 a ha).2.1 (h3 a hb).1⟩
 · rcases List.mem_append.1 hr with hr | hr
   · exact ⟨(k3 r hr).1, fun hb => (k3 r hr).2.1 (h.sub r hb), (k3 r hr).2.2⟩
   · exact ⟨k.sub r (h3 r hr).1, (h3 r hr).2.1, (k.keeps.block r (h3 r hr).1).trans (h3 r hr).2.2⟩
def RoOk (ro : Option Nat) (B : Nat → Prop) (w0 : World) : Prop := ∀ l, ro = some l → B l ∧ ∃ r, w0.heap[l]? = some (.loop r)
theorem RoOk.le {ro : Option Nat} {D D' : List Deferred} {B B' : Nat → Prop} {w0 w0' : World} {M0 M0' : Mem} (h : RoOk ro B w0) (hc : CtxLe D B w0 M0 D' B' w0' M0') : RoOk ro B' w0' := fun l hl => by
 obtain ⟨h1, r, h2⟩ := h l hl
 exact ⟨hc.sub l h1, r, (hc.keeps.block l h1).trans h2⟩
def TrPost (k : Nat) (D : List Deferred) (B : Nat → Prop) (w0 : World) (M0 : Mem) (ρ : Loc) (M : Mem) (Q : Exit → St → Prop) : Exit → Act → World → Prop := fun e a' w' =>
 ∃ s' ρ' M' D' B' w0' M0', CtxLe D B w0 M0 D' B' w0' M0' ∧ Q e s' ∧ kept k ρ ρ' ∧ M.le M' ∧ Sim D' B' w0' M0' s' a' w' ρ' M'
theorem TrPost.then {k : Nat} {D D1 : List Deferred} {B B1 : Nat → Prop} {w0 w1 : World} {M0 M1 : Mem} {ρ ρ1 : Loc} {M Ma : Mem} {Q : Exit → St → Prop} {e : Exit} {a : Act} {w : World} (hc : CtxLe D B w0 M0 D1 B1 w1 M1) (hk : kept k ρ ρ1) (hM : M.le Ma)
  (h : TrPost k D1 B1 w1 M1 ρ1 Ma Q e a w) : TrPost k D B w0 M0 ρ M Q e a w := by
 obtain ⟨s', ρ', M', D', B', w0', M0', h1, h2, h3, h4, h5⟩ := h
 exact ⟨s', ρ', M', D', B', w0', M0', hc.trans h1, h2, hk.trans h3, Mem.le_trans hM h4, h5⟩
def Tr (P : Program) (k : Nat) (c : Code) (s : St) (Q : Exit → St → Prop) : Prop :=
 ∀ (ro : Option Nat) (D : List Deferred) (B : Nat → Prop) (w0 : World) (M0 : Mem) (a : Act) (w : World) (ρ : Loc) (M : Mem), RoOk ro B w0 → Sim D B w0 M0 s a w ρ M →
  c.wpIn (wR ro) 0 P (TrPost k D B w0 M0 ρ M Q) a w
theorem Tr.mono {P : Program} {k : Nat} {c : Code} {s : St} {Q Q' : Exit → St → Prop} (h : Tr P k c s Q) (hq : ∀ e s, Q e s → Q' e s) : Tr P k c s Q' := fun ro D B w0 M0 a w ρ M hro H =>
 wpIn_mono (h ro D B w0 M0 a w ρ M hro H) fun _ _ _ ⟨s', ρ', M', D', B', w0', M0', h0, h1, h2⟩ => ⟨s', ρ', M', D', B', w0', M0', h0, hq _ _ h1, h2⟩
def LoopsOk (P : Program) (k : Nat) (L : Loops) : Nat → Code → Prop
 | bid, .loop c => ∀ s p σ T, L bid s = some (p, σ, T) → ∀ Q, T.All Q → ∀ s', pull σ p s' = push σ p → Tr P k (.loop c) s' Q
 | bid, .rangeFunc f ps x y => ∀ s p σ T, L bid s = some (p, σ, T) → ∀ Q, T.All Q → ∀ s', pull σ p s' = push σ p → Tr P k (.rangeFunc f ps x y) s' Q
 | bid, .seq x y => LoopsOk P k L bid x ∧ LoopsOk P k L bid y
 | bid, .cond _ x y => LoopsOk P k L bid x ∧ LoopsOk P k L bid y
 | _, .block id x => LoopsOk P k L id x
 | bid, .scope x => LoopsOk P k L bid x
 | _, _ => True
theorem LoopsOk.rest {P : Program} {k : Nat} {L : Loops} {bid : Nat} : ∀ {c : Code} {l : Nat} {r : Code}, LoopsOk P k L bid c → findLabel c l = some r → LoopsOk P k L bid r
 | .seq x y, l, r, h, hf => by
  simp only [findLabel] at hf
  split at hf
  · rename_i r' hr
    injection hf with hf
    subst hf
    exact ⟨LoopsOk.rest h.1 hr, h.2⟩
  · exact LoopsOk.rest h.2 hf
 | .label l', l, r, _, hf => by
  simp only [findLabel] at hf
  split at hf
  · injection hf with hf; subst hf; trivial
  · cases hf
 | .skip, _, _, _, hf | .region .., _, _, _, hf | .cond .., _, _, _, hf | .block .., _, _, _, hf | .loop _, _, _, _, hf | .rangeFunc .., _, _, _, hf | .exit _, _, _, _, hf | .scope _, _, _, _, hf | .goto _, _, _, _, hf | .ret, _, _, _, hf | .refuse _, _, _, _, hf => by cases hf

theorem fenced_wR {ro : Option Nat} (P : Program) (m : Machine) : m.fenced P (wR ro) := fenced_wide P m
section
variable {E : Env} {L : Loops}
theorem SimT.setB {ρ : Loc} {M : Mem} {t : List AV} {h : List AObj} {a : Act} (T : SimT D ρ M noG t a) {c : Operand} {b : Bool} (hb : a.eval c = .bool b) : SimT D ρ M noG (Go.Eng.setB ⟨t, h⟩ c b).t a := by
 cases c with
 | tmp d =>
  refine ⟨by simp [Go.Eng.setB, T.len], T.defers, fun i => ?_⟩
  simp only [Go.Eng.setB]
  rw [set_getD]
  split
  · rename_i hd
    obtain ⟨rfl, _⟩ := hd
    exact hb
  · exact T.at_ i
 | _ => exact T
theorem evCode_sound (hK : KOk E) {k : Nat} : ∀ (n bid : Nat) (c : Code) (s : St) (Q : Exit → St → Prop), LoopsOk E.P k L bid c → (evCode E L n bid c s).All Q → Tr E.P k c s Q := by
 intro n
 induction n with
 | zero => intro bid c s Q _ h; exact h.elim
 | succ n ih =>
  intro bid c s Q hL h ro D B w0 M0 a w ρ M hro H
  have here : ∀ {e : Exit}, Q e s → TrPost k D B w0 M0 ρ M Q e a w := fun {e} hq => ⟨s, ρ, M, D, B, w0, M0, CtxLe.refl _ _ _ _, hq, .refl _ _, Mem.le_refl _, H⟩
  cases c with
  | skip => exact wpIn_skip (here h)
  | region id ops draw =>
   simp only [evCode] at h
   have hops : ops = ops.toList.toArray := by simp
   unfold evReg at h
   rw [hops]
   cases draw with
   | false =>
    refine wpIn_mono (evRegion_sound (ro := ro) (n := k) hK (by simpa using h) H) ?_
    rintro e a' w' ⟨s', ρ', M', h1, h2, h3, h4⟩
    exact ⟨s', ρ', M', D, B, w0, M0, CtxLe.refl _ _ _ _, h1, h2, h3, h4⟩
   | true =>
    simp only [if_true] at h
    have hh : ∃ p s', evDraw E ops.toList s = some (p, s') ∧ (∀ q ∈ p, q) ∧ Q .normal s' := by
     split at h
     · rename_i s' he; exact ⟨[], s', he, by simp, h⟩
     · rename_i p ps s' he; exact ⟨_, s', he, h.1, h.2⟩
     · exact h.elim
    obtain ⟨p, s', he, hp, hq⟩ := hh
    exact evDraw_sound (ro := ro) hK he hp H _ fun a' w' ρ' M' l1 l2 H' => ⟨s', ρ', M', D, B, w0, M0, CtxLe.refl _ _ _ _, hq, .of_le l1, l2, H'⟩
  | seq x y =>
   simp only [evCode] at h
   have h1 := ih bid x s _ hL.1 (Tree.All_bind h) ro D B w0 M0 a w ρ M hro H
   refine wpIn_seq (wpIn_mono h1 ?_)
   rintro e a1 w1 ⟨s1, ρ1, M1, D1, B1, w01, M01, hc, hq, l1, l2, H1⟩
   cases e with
   | normal =>
    simp only [Exit.then]
    exact wpIn_mono (ih bid y s1 Q hL.2 hq ro D1 B1 w01 M01 a1 w1 ρ1 M1 (hro.le hc) H1) fun e a2 w2 hp => hp.then hc l1 l2
   | _ => exact ⟨s1, ρ1, M1, D1, B1, w01, M01, hc, hq, l1, l2, H1⟩
  | cond c x y =>
   simp only [evCode] at h
   split at h
   · rename_i b hb
     have hv : a.eval c = .bool b := by
      have : rep ρ M noG (ungrd [] (opd s.t c)) (a.eval c) := by
       cases c with
       | tmp i =>
        have := H.t.at_ i
        simp only [opd]
        generalize s.t.getD i .unk = x at this ⊢
        cases x
        case grd => simp [ungrd, rep]
        all_goals exact this
       | const v =>
        have := rep_avOf ρ M noG v
        simp only [opd, Act.eval] at this ⊢
        generalize avOf v = x at this ⊢
        cases x
        case grd => simp [ungrd, rep]
        all_goals exact this
       | global g => simp [opd, ungrd, rep]
       | func f => simp only [opd, ungrd, rep, Act.eval]; exact ⟨[], rfl, by simp [repL]⟩
      rw [hb] at this
      simpa [rep] using this
     refine wpIn_cond_split hv (fun hbt => ?_) (fun hbf => ?_)
     · subst hbt
       refine ih bid x _ Q hL.1 (h.1 rfl) ro D B w0 M0 a w ρ M hro ⟨?_, SimT.setB (h := s.h) H.t hv⟩
       have : (setB s c true).h = s.h := by unfold setB; split <;> rfl
       rw [this]; exact H.h
     · subst hbf
       refine ih bid y _ Q hL.2 (h.2 rfl) ro D B w0 M0 a w ρ M hro ⟨?_, SimT.setB (h := s.h) H.t hv⟩
       have : (setB s c false).h = s.h := by unfold setB; split <;> rfl
       rw [this]; exact H.h
   · exact h.elim
  | block id x =>
   simp only [evCode] at h
   have h1 := ih id x s _ hL (Tree.All_bind h) ro D B w0 M0 a w ρ M hro H
   refine wpIn_block (wpIn_mono h1 ?_)
   rintro e a1 w1 ⟨s1, ρ1, M1, D1, B1, w01, M01, hc, hq, l1, l2, H1⟩
   cases e with
   | exit i =>
    simp only [Exit.inBlock] at hq ⊢
    split
    · rename_i hi; rw [if_pos hi] at hq; exact ⟨s1, ρ1, M1, D1, B1, w01, M01, hc, hq, l1, l2, H1⟩
    · rename_i hi; rw [if_neg hi] at hq; exact ⟨s1, ρ1, M1, D1, B1, w01, M01, hc, hq, l1, l2, H1⟩
   | _ => exact ⟨s1, ρ1, M1, D1, B1, w01, M01, hc, hq, l1, l2, H1⟩
  | loop x =>
   simp only [evCode] at h
   split at h
   · rename_i p σ T hT
     exact hL s p σ T hT Q h.2 s h.1 ro D B w0 M0 a w ρ M hro H
   · exact h.elim
  | rangeFunc f ps x y =>
   simp only [evCode] at h
   split at h
   · rename_i p σ T hT
     exact hL s p σ T hT Q h.2 s h.1 ro D B w0 M0 a w ρ M hro H
   · exact h.elim
  | exit id => exact wpIn_exit (here h)
  | label l => exact wpIn_label (here h)
  | goto l => exact wpIn_goto (here h)
  | ret => exact wpIn_ret (here h)
  | scope x =>
   simp only [evCode] at h
   have h1 := ih bid x s _ hL (Tree.All_bind h) ro D B w0 M0 a w ρ M hro H
   intro b kk cs hb0 hfn hroom
   have calm : ∀ {fr : Frame} {w : World}, (lone fr cs w).fenced E.P (wR ro) := fun {fr w} => fenced_wR _ _
   have sc : ∀ {a : Act} {w : World}, step E.P (lone (b.atR a (.code (.scope x) :: kk)) cs w) = .next (lone (b.atR a (.code x :: .inScope x :: kk)) cs w) := step_lone_go (by simp [stepG, stepG.exec, Frame.atR])
   have sci : ∀ {a : Act} {w : World}, step E.P (lone (b.atR a (.inScope x :: kk)) cs w) = .next (lone (b.atR a kk) cs w) := step_lone_go (by simp [stepG, stepG.exec, Frame.atR])
   have ext : ∀ i, exitTo i (.inScope x :: kk) = exitTo i kk := fun i => by simp [exitTo]
   obtain ⟨e, a1, w1, ⟨s1, ρ1, M1, D1, B1, w01, M01, hc, hq, l1, l2, H1⟩, harr⟩ := h1 b (.inScope x :: kk) cs hb0 hfn hroom
   cases e with
   | normal => exact ⟨.normal, a1, w1, ⟨s1, ρ1, M1, D1, B1, w01, M01, hc, hq, l1, l2, H1⟩, .head calm sc (StepsIn.trans harr (.one calm sci))⟩
   | exit id => exact ⟨.exit id, a1, w1, ⟨s1, ρ1, M1, D1, B1, w01, M01, hc, hq, l1, l2, H1⟩, fun k' hk => .head calm sc (harr.1 k' (by rw [ext]; exact hk)), fun hr hk => let ⟨k₁, q1, q2⟩ := harr.2 hr (by rw [ext]; exact hk); ⟨k₁, q1, .head calm sc q2⟩⟩
   | goto l =>
    simp only [] at hq
    split at hq
    · rename_i rest hf
      have hg : gotoIn l (.inScope x :: kk) = some (.code rest :: .inScope x :: kk) := by simp [gotoIn, hf]
      have h2 := ih bid rest s1 _ (LoopsOk.rest (k := k) (c := x) (bid := bid) (by exact hL) hf) (Tree.All_bind hq) ro D1 B1 w01 M01 a1 w1 ρ1 M1 (hro.le hc) H1
      obtain ⟨e2, a2, w2, hp2, harr2⟩ := h2 b (.inScope x :: kk) cs hb0 hfn hroom
      have st := StepsIn.head calm sc (harr.1 _ hg)
      cases e2 with
      | normal => exact ⟨.normal, a2, w2, hp2.then hc l1 l2, StepsIn.trans st (StepsIn.trans harr2 (.one calm sci))⟩
      | exit id => exact ⟨.exit id, a2, w2, hp2.then hc l1 l2, fun k' hk => st.trans (harr2.1 k' (by rw [ext]; exact hk)), fun hr hk => let ⟨k₁, q1, q2⟩ := harr2.2 hr (by rw [ext]; exact hk); ⟨k₁, q1, st.trans q2⟩⟩
      | goto l' => exact ((hp2.choose_spec.choose_spec.choose_spec.choose_spec.choose_spec.choose_spec.choose_spec).2.1 : False).elim
      | ret => exact ⟨_, a2, w2, hp2.then hc l1 l2, .of_steps st harr2⟩
      | panic ch => exact ⟨_, a2, w2, hp2.then hc l1 l2, .of_steps st harr2⟩
      | outgrown => exact ⟨_, a2, w2, hp2.then hc l1 l2, .of_steps (b := b) (k := kk) (cs := cs) (e := .outgrown) st harr2⟩
    · exact hq.elim
   | ret => exact ⟨_, a1, w1, ⟨s1, ρ1, M1, D1, B1, w01, M01, hc, hq, l1, l2, H1⟩, .of_steps (.one calm sc) harr⟩
   | panic ch => exact ⟨_, a1, w1, ⟨s1, ρ1, M1, D1, B1, w01, M01, hc, hq, l1, l2, H1⟩, .of_steps (.one calm sc) harr⟩
   | outgrown => exact ⟨_, a1, w1, ⟨s1, ρ1, M1, D1, B1, w01, M01, hc, hq, l1, l2, H1⟩, .of_steps (b := b) (k := kk) (cs := cs) (e := .outgrown) (.one calm sc) harr⟩
  | refuse why => exact h.elim
end

end Go.Eng
end
section
namespace Go.Eng
open Go.RowKit (Below)
variable {D : List Deferred}

mutual
def AV.lt (n : Nat) : AV → Bool
 | .ptr id _ => decide (id < n)
 | .evp id _ _ _ => decide (id < n)
 | .vec id => decide (id < n)
 | .vsub id _ _ _ => decide (id < n)
 | .map id => decide (id < n)
 | .mapq _ id m => decide (id < n) && decide (m < n)
 | .yld id => decide (id < n)
 | .agg cs => ltL n cs
 | .tup cs => ltL n cs
 | .fn _ cs => ltL n cs
 | .iface _ x => x.lt n
 | .grd .. => false
 | _ => true
def ltL (n : Nat) : List AV → Bool
 | [] => true
 | x :: xs => x.lt n && ltL n xs
end
def AObj.lt (n : Nat) : AObj → Bool
 | .cells _ cs => ltL n cs
 | .loop _ cs _ => ltL n cs
 | .vols _ (some (m, _)) => decide (m < n)
 | _ => true
def St.wf (s : St) : Bool := ltL s.h.length s.t && s.h.all (AObj.lt s.h.length)
theorem ltL_getD {n : Nat} : ∀ {l : List AV}, ltL n l = true → ∀ i, (l.getD i .unk).lt n = true
 | [], _, i => by simp [AV.lt]
 | x :: xs, h, 0 => by simp only [ltL, Bool.and_eq_true] at h; simpa using h.1
 | x :: xs, h, i + 1 => by simp only [ltL, Bool.and_eq_true] at h; simpa using ltL_getD h.2 i
mutual
theorem rep_ren {ρ ρ' : Loc} {M : Mem} {G G' : Nat → Bool → Prop} {σ : Nat → Nat} {n : Nat} (hσ : ∀ k, k < n → ρ (σ k) = ρ' k) : ∀ (x : AV) (v : Value), x.lt n = true → (rep ρ M G (ren σ x) v ↔ rep ρ' M G' x v)
 | .unk, _, _ => by simp [ren, rep]
 | .int _ _, _, _ => by simp [ren, rep]
 | .bool _, _, _ => by simp [ren, rep]
 | .str _, _, _ => by simp [ren, rep]
 | .nilp, _, _ => by simp [ren, rep]
 | .ptr id _, v, hc => by simp only [rep, AV.lt, decide_eq_true_eq, ren] at hc ⊢; rw [hσ id hc]
 | .ep _ _ _, _, _ => by simp only [ren, rep]
 | .evp id _ _ _, v, hc => by simp only [rep, AV.lt, decide_eq_true_eq, ren] at hc ⊢; rw [hσ id hc]
 | .agg cs, v, hc => by
  simp only [rep, AV.lt, ren] at hc ⊢
  exact ⟨fun ⟨vs, h1, h2⟩ => ⟨vs, h1, (repL_ren hσ cs vs hc).1 h2⟩, fun ⟨vs, h1, h2⟩ => ⟨vs, h1, (repL_ren hσ cs vs hc).2 h2⟩⟩
 | .tup cs, v, hc => by
  simp only [rep, AV.lt, ren] at hc ⊢
  exact ⟨fun ⟨vs, h1, h2⟩ => ⟨vs, h1, (repL_ren hσ cs vs hc).1 h2⟩, fun ⟨vs, h1, h2⟩ => ⟨vs, h1, (repL_ren hσ cs vs hc).2 h2⟩⟩
 | .nils, _, _ => by simp [ren, rep]
 | .vec id, v, hc => by simp only [rep, AV.lt, decide_eq_true_eq, ren] at hc ⊢; rw [hσ id hc]
 | .vsub id _ _ _, v, hc => by simp only [rep, AV.lt, decide_eq_true_eq, ren] at hc ⊢; rw [hσ id hc]
 | .coll _, _, _ => by simp only [ren, rep]
 | .fn f cs, v, hc => by
  simp only [rep, AV.lt, ren] at hc ⊢
  exact ⟨fun ⟨vs, h1, h2⟩ => ⟨vs, h1, (repL_ren hσ cs vs hc).1 h2⟩, fun ⟨vs, h1, h2⟩ => ⟨vs, h1, (repL_ren hσ cs vs hc).2 h2⟩⟩
 | .yld id, v, hc => by simp only [rep, AV.lt, decide_eq_true_eq, ren] at hc ⊢; rw [hσ id hc]
 | .nxt _ _ _, _, _ => by simp only [ren, rep]
 | .nilf, _, _ => by simp [ren, rep]
 | .map id, v, hc => by simp only [rep, AV.lt, decide_eq_true_eq, ren] at hc ⊢; rw [hσ id hc]
 | .nilm, _, _ => by simp [ren, rep]
 | .nili, _, _ => by simp [ren, rep]
 | .iface t x, v, hc => by
  simp only [rep, AV.lt, ren] at hc ⊢
  exact ⟨fun ⟨u, h1, h2⟩ => ⟨u, h1, (rep_ren hσ x u hc).1 h2⟩, fun ⟨u, h1, h2⟩ => ⟨u, h1, (rep_ren hσ x u hc).2 h2⟩⟩
 | .grd _ _ _, _, hc => by simp [AV.lt] at hc
 | .href _, _, _ => by simp [ren, rep]
 | .mapq b id m, v, hc => by simp only [rep, AV.lt, decide_eq_true_eq, ren, Bool.and_eq_true] at hc ⊢; rw [hσ m hc.2]
theorem repL_ren {ρ ρ' : Loc} {M : Mem} {G G' : Nat → Bool → Prop} {σ : Nat → Nat} {n : Nat} (hσ : ∀ k, k < n → ρ (σ k) = ρ' k) : ∀ (xs : List AV) (vs : List Value), ltL n xs = true → (repL ρ M G (renL σ xs) vs ↔ repL ρ' M G' xs vs)
 | [], [], _ => by simp [renL, repL]
 | x :: xs, v :: vs, hc => by simp only [renL, repL, ltL, Bool.and_eq_true] at hc ⊢; rw [rep_ren hσ x v hc.1, repL_ren hσ xs vs hc.2]
 | [], _ :: _, _ => by simp [renL, repL]
 | _ :: _, [], _ => by simp [renL, repL]
end
theorem scL_ren {σ : Nat → Nat} : ∀ (p : List AV) (us : List Value), scL (renL σ p) us ↔ scL p us
 | [], [] => by simp [renL, scL]
 | x :: p, v :: us => by
  simp only [renL, scL, scL_ren p us]
  have : sc (ren σ x) v ↔ sc x v := by cases x <;> simp [ren, sc]
  rw [this]
 | [], _ :: _ => by simp [renL, scL]
 | _ :: _, [] => by simp [renL, scL]
theorem okObj.unren {ρ ρ' : Loc} {M : Mem} {w : World} {σ : Nat → Nat} {n k : Nat} {o : AObj} (hσ : ∀ k, k < n → ρ (σ k) = ρ' k) (hown : ∀ r, ρ.own r = some (σ k) → ρ'.own r = some k) (hk : k < n) (ho : o.lt n = true) (h : okObj ρ M w (σ k) (renO σ o)) : okObj ρ' M w k o := by
 have e := (hσ k hk).symm
 cases o with
 | dead => trivial
 | cells t cs => obtain ⟨r, vs, h1, h2, h3, h4, h5⟩ := h; exact ⟨r, vs, e.trans h1, hown r h2, h3, (repL_ren hσ cs vs ho).1 h4, h5⟩
 | vec f c =>
  obtain ⟨hv, h1, h2⟩ := h
  refine ⟨hv, e.trans h1, ?_⟩
  rcases h2 with h2 | ⟨r, cap, vs, t, q, h4, h5⟩
  · exact .inl h2
  · exact .inr ⟨r, cap, vs, t, q, hown r h4, h5⟩
 | map m => obtain ⟨r, ents, clock, h1, h2, h3, h4⟩ := h; exact ⟨r, ents, clock, e.trans h1, hown r h2, h3, h4⟩
 | iter s pos => obtain ⟨r, h1, h2, h3, h4⟩ := h; exact ⟨r, e.trans h1, hown r h2, h3, h4⟩
 | loop site t pd => obtain ⟨r, rec, h1, h2, h3, q1, q2, q3, h4, h5⟩ := h; exact ⟨r, rec, e.trans h1, hown r h2, h3, q1, q2, q3, (repL_ren hσ t rec.tmps.toList ho).1 h4, h5⟩
 | var t p f c =>
  obtain ⟨r, us, hv, h1, h2, h3, h4, hp, h5, h6⟩ := h
  refine ⟨r, us, hv, e.trans h1, hown r h2, h3, h4, (scL_ren p us).1 hp, ?_, h6⟩
  rcases h5 with h5 | ⟨r', cap, vs, t', q, h5, h7⟩
  · exact .inl h5
  · exact .inr ⟨r', cap, vs, t', q, hown r' h5, h7⟩
 | vols es al =>
  have aux : ∀ al', okObj ρ M w (σ k) (.vols es al') → (∀ xs, alOk ρ.pl xs al' → alOk ρ'.pl xs al) → okObj ρ' M w k (.vols es al) := by
   rintro al' ⟨r, ents, clock, xs, h1, h2, h3, h4, hst, h5, h6, h7⟩ ha
   exact ⟨r, ents, clock, xs, e.trans h1, hown r h2, h3, h4, hst, h5.keep (Mem.le_refl _) fun r hr => ⟨hown r hr, rfl⟩, h6, ha xs h7⟩
  match al, ho, h with
  | none, _, h => exact aux none h fun _ _ => trivial
  | some (m, kk), ho, h =>
   refine aux (some (σ m, kk)) h fun xs h7 x hx => ?_
   obtain ⟨q, h8, h9⟩ := h7 x hx
   exact ⟨q, h8, (hσ m (by simpa [AObj.lt] using ho)).symm.trans h9⟩
theorem okObj.ren {ρ ρ' : Loc} {M : Mem} {w : World} {σ : Nat → Nat} {n k : Nat} {o : AObj} (hσ : ∀ k, k < n → ρ (σ k) = ρ' k) (hown : ∀ r, ρ'.own r = some k → ρ.own r = some (σ k)) (hk : k < n) (ho : o.lt n = true) (h : okObj ρ' M w k o) : okObj ρ M w (σ k) (renO σ o) := by
 have e := hσ k hk
 cases o with
 | dead => trivial
 | cells t cs => obtain ⟨r, vs, h1, h2, h3, h4, h5⟩ := h; exact ⟨r, vs, e.trans h1, hown r h2, h3, (repL_ren hσ cs vs ho).2 h4, h5⟩
 | vec f c =>
  obtain ⟨hv, h1, h2⟩ := h
  refine ⟨hv, e.trans h1, ?_⟩
  rcases h2 with h2 | ⟨r, cap, vs, t, q, h4, h5⟩
  · exact .inl h2
  · exact .inr ⟨r, cap, vs, t, q, hown r h4, h5⟩
 | map m => obtain ⟨r, ents, clock, h1, h2, h3, h4⟩ := h; exact ⟨r, ents, clock, e.trans h1, hown r h2, h3, h4⟩
 | iter s pos => obtain ⟨r, h1, h2, h3, h4⟩ := h; exact ⟨r, e.trans h1, hown r h2, h3, h4⟩
 | loop site t pd => obtain ⟨r, rec, h1, h2, h3, q1, q2, q3, h4, h5⟩ := h; exact ⟨r, rec, e.trans h1, hown r h2, h3, q1, q2, q3, (repL_ren hσ t rec.tmps.toList ho).2 h4, h5⟩
 | var t p f c =>
  obtain ⟨r, us, hv, h1, h2, h3, h4, hp, h5, h6⟩ := h
  refine ⟨r, us, hv, e.trans h1, hown r h2, h3, h4, (scL_ren p us).2 hp, ?_, h6⟩
  rcases h5 with h5 | ⟨r', cap, vs, t', q, h5, h7⟩
  · exact .inl h5
  · exact .inr ⟨r', cap, vs, t', q, hown r' h5, h7⟩
 | vols es al =>
  have aux : ∀ al', okObj ρ' M w k (.vols es al) → (∀ xs, alOk ρ'.pl xs al → alOk ρ.pl xs al') → okObj ρ M w (σ k) (.vols es al') := by
   rintro al' ⟨r, ents, clock, xs, h1, h2, h3, h4, hst, h5, h6, h7⟩ ha
   exact ⟨r, ents, clock, xs, e.trans h1, hown r h2, h3, h4, hst, h5.keep (Mem.le_refl _) fun r hr => ⟨hown r hr, rfl⟩, h6, ha xs h7⟩
  match al, ho, h with
  | none, _, h => exact aux none h fun _ _ => trivial
  | some (m, kk), ho, h =>
   refine aux (some (σ m, kk)) h fun xs h7 x hx => ?_
   obtain ⟨q, h8, h9⟩ := h7 x hx
   exact ⟨q, h8, (hσ m (by simpa [AObj.lt] using ho)).trans h9⟩
theorem okObj.rest {ρ : Loc} {M : Mem} {w : World} {id : Nat} {o : AObj} (h : okObj ρ M w id o) : okObj ρ M w id o.rest := by
 cases o <;> try exact h
 rename_i es al
 obtain ⟨r, ents, clock, xs, h1, h2, h3, h4, hst, h5, h6, h7⟩ := h
 exact ⟨r, ents, clock, xs, h1, h2, h3, h4, hst, h5, h6, trivial⟩
theorem renO_dead {σ : Nat → Nat} {o : AObj} (h : renO σ o = .dead) : o = .dead := by
 cases o
 case vols es al => rcases al with _ | ⟨n, k⟩ <;> simp [renO] at h
 all_goals simp [renO] at h ⊢
def Loc.ren (ρ : Loc) (σ : Nat → Nat) (n : Nat) : Loc := ⟨fun i => if i < n then ρ (σ i) else none, fun r => match ρ.own r with | some id => (List.range n).find? fun j => σ j == id | none => none⟩
theorem Loc.ren_at {ρ : Loc} {σ : Nat → Nat} {n i : Nat} (h : i < n) : ρ (σ i) = (ρ.ren σ n) i := by simp [Loc.ren, h]
theorem Loc.ren_own {ρ : Loc} {σ : Nat → Nat} {n : Nat} (hinj : ∀ i j, i < n → j < n → σ i = σ j → i = j) {r k : Nat} (hk : k < n) (h : ρ.own r = some (σ k)) : (ρ.ren σ n).own r = some k := by
 simp only [Loc.ren, h]
 cases hf : (List.range n).find? fun j => σ j == σ k with
 | none =>
  have := List.find?_eq_none.1 hf k (List.mem_range.2 hk)
  simp at this
 | some j =>
  have h1 := List.find?_some hf
  have h2 := List.mem_of_find?_eq_some hf
  simp only [beq_iff_eq] at h1
  rw [hinj j k (List.mem_range.1 h2) hk h1]
theorem Loc.own_ren {ρ : Loc} {σ : Nat → Nat} {n r k : Nat} (h : (ρ.ren σ n).own r = some k) : k < n ∧ ρ.own r = some (σ k) := by
 simp only [Loc.ren] at h
 split at h
 · rename_i id hid
   have h1 := List.find?_some h
   have h2 := List.mem_of_find?_eq_some h
   simp only [beq_iff_eq] at h1
   exact ⟨List.mem_range.1 h2, by rw [hid, h1]⟩
 · cases h
def okSg (k n : Nat) (σ : List Nat) : Bool := decide (((List.range n).map (sgm σ)).Nodup) && (List.range k).all fun j => sgm σ j == j
theorem okSg_inj {k n : Nat} {σ : List Nat} (h : okSg k n σ = true) : (∀ i j, i < n → j < n → sgm σ i = sgm σ j → i = j) ∧ ∀ j, j < k → sgm σ j = j := by
 simp only [okSg, Bool.and_eq_true, decide_eq_true_eq, List.all_eq_true, List.mem_range, beq_iff_eq] at h
 refine ⟨fun i j hi hj e => ?_, h.2⟩
 have hl : ((List.range n).map (sgm σ)).length = n := by simp
 have h1 : ((List.range n).map (sgm σ))[i]'(by rw [hl]; exact hi) = ((List.range n).map (sgm σ))[j]'(by rw [hl]; exact hj) := by simpa using e
 exact (List.getElem_inj h.1).1 h1
theorem likeT_len : ∀ (p s : List AV), ∀ {σ : Nat → Nat}, likeT p s = renT σ p → p.length = s.length
 | [], s, σ, h => by cases s <;> simp [likeT, renT] at h ⊢
 | p :: ps, [], σ, h => by simp [likeT, renT] at h
 | p :: ps, x :: xs, σ, h => by simp only [likeT, renT, List.cons.injEq] at h; simp [likeT_len ps xs h.2]
theorem likeT_at : ∀ (p s : List AV) {σ : Nat → Nat}, likeT p s = renT σ p → ∀ i, p.getD i .unk = .unk ∨ s.getD i .unk = ren σ (p.getD i .unk)
 | [], s, σ, h, i => .inl (by simp)
 | p :: ps, [], σ, h, i => by simp [likeT, renT] at h
 | p :: ps, x :: xs, σ, h, i => by
  simp only [likeT, renT, List.cons.injEq] at h
  cases i with
  | zero =>
   have h1 := h.1
   cases p <;> simp only at h1 <;> first | exact .inl rfl | exact .inr h1
  | succ i => exact likeT_at ps xs h.2 i
theorem pullH_at {σ : List Nat} {h : List AObj} : ∀ (p : List AObj) (k : Nat), pullH σ h k p = p.map (renO (sgm σ)) → ∀ i, i < p.length → hget p i = .dead ∨ hget h (sgm σ (k + i)) = renO (sgm σ) (hget p i) ∨ (hget h (sgm σ (k + i))).rest = renO (sgm σ) (hget p i)
 | [], k, _, i, hi => by simp at hi
 | o :: os, k, hp, i, hi => by
  simp only [pullH, List.map_cons, List.cons.injEq] at hp
  cases i with
  | zero =>
   have h1 := hp.1
   simp only [hget, List.getD_cons_zero, Nat.add_zero]
   cases o <;> first | exact .inl rfl | exact .inr (.inl h1) | skip
   rename_i es al
   match al, h1 with
   | none, h1 => exact .inr (.inr h1)
   | some _, h1 => exact .inr (.inl h1)
  | succ i =>
   have := pullH_at os (k + 1) hp.2 i (by simpa using hi)
   rw [show k + (i + 1) = k + 1 + i from by omega]
   simpa [hget] using this
theorem repS_ren {ρ ρ' : Loc} {M : Mem} {σ : Nat → Nat} {n : Nat} (hσ : ∀ k, k < n → ρ (σ k) = ρ' k) {x : AV} {v : Value} (hl : x.lt n = true) (h : repS ρ M noG (ren σ x) v) : repS ρ' M noG x v := by
 have h' : rep ρ M noG (ren σ x) v := by
  cases x <;> simp [AV.lt] at hl <;> exact h
 have := (rep_ren (G' := noG) hσ x v hl).1 h'
 cases x <;> simp [AV.lt] at hl <;> exact this
theorem hget_lt {h : List AObj} {i : Nat} (hd : hget h i ≠ .dead) : i < h.length := by
 rcases Nat.lt_or_ge i h.length with hl | hl
 · exact hl
 · exact absurd (by simp [hget, List.getD_eq_getElem?_getD, List.getElem?_eq_none hl]) hd
theorem Sim.fits {B : Nat → Prop} {w0 w : World} {M0 M : Mem} {ρ : Loc} {a : Act} {s p : St} {σ : List Nat} {k : Nat} (H : Sim D B w0 M0 s a w ρ M) (hp : pull σ p s = push σ p) (hw : p.wf = true) (hs : okSg k p.h.length σ = true) : Sim D B w0 M0 p a w (ρ.ren (sgm σ) p.h.length) M := by
 have ht : likeT p.t s.t = renT (sgm σ) p.t := congrArg St.t hp
 have hh : pullH σ s.h 0 p.h = p.h.map (renO (sgm σ)) := congrArg St.h hp
 obtain ⟨hinj, _⟩ := okSg_inj hs
 simp only [St.wf, Bool.and_eq_true] at hw
 have hσ : ∀ i, i < p.h.length → ρ (sgm σ i) = (ρ.ren (sgm σ) p.h.length) i := fun i hi => Loc.ren_at hi
 refine ⟨⟨fun id => ?_, fun id hid => by simp [Loc.ren, Nat.not_lt.2 hid], fun r id hr => H.h.own r _ (Loc.own_ren hr).2, H.h.mem, H.h.old, H.h.below, H.h.size, H.h.good⟩, ⟨(likeT_len _ _ ht).trans H.t.len, H.t.defers, fun i => ?_⟩⟩
 · by_cases hdead : hget p.h id = .dead
   · rw [hdead]; trivial
   · have hid := hget_lt hdead
     rcases pullH_at _ 0 hh id hid with hd | he
     · exact absurd hd hdead
     · rw [Nat.zero_add] at he
       have hobj := H.h.obj (sgm σ id)
       replace hobj : okObj ρ M w (sgm σ id) (renO (sgm σ) (hget p.h id)) := by
        rcases he with he | he
        · rw [he] at hobj; exact hobj
        · rw [← he]; exact hobj.rest
       have hlt : (hget p.h id).lt p.h.length = true := by
        have := List.all_eq_true.1 hw.2 (hget p.h id)
        refine this ?_
        simp only [hget, List.getD_eq_getElem?_getD, List.getElem?_eq_getElem hid, Option.getD_some]
        exact List.getElem_mem hid
       exact hobj.unren hσ (fun r hr => Loc.ren_own hinj hid hr) hid hlt
 · rcases likeT_at _ _ ht i with hd | he
   · rw [hd]; simp [repS, rep]
   · have := H.t.at_ i
     rw [he] at this
     exact repS_ren hσ (ltL_getD hw.1 i) this
theorem kept.ren {k n : Nat} {σ : List Nat} (hk : k ≤ n) (hs : okSg k n σ = true) (ρ : Loc) : kept k ρ (ρ.ren (sgm σ) n) := fun id r hi e => by
 simp only [Loc.ren]
 rw [if_pos (by omega), (okSg_inj hs).2 id hi]
 exact e

inductive RT where
 | leaf (e : Exit) (p : St) (σ : List Nat)
 | ask (b : Bool) (t f : RT)
 | need (ps : List Prop) (t : RT)
 | fail
def RT.All (Q : Exit → St → Prop) : RT → Prop
 | .leaf e p _ => Q e p
 | .ask b t f => (b = true → t.All Q) ∧ (b = false → f.All Q)
 | .need ps t => (∀ q ∈ ps, q) ∧ t.All Q
 | .fail => False
def pushT : RT → Tree
 | .leaf e p σ => .leaf e (push σ p)
 | .ask b t f => .ask b (pushT t) (pushT f)
 | .need ps t => .need ps (pushT t)
 | .fail => .fail
def pullT : RT → Tree → Tree
 | .fail, _ => .fail
 | .leaf _ p σ, .leaf e' s => .leaf e' (pull σ p s)
 | .ask _ t f, .ask b t' f' => .ask b (pullT t t') (pullT f f')
 | .need _ t, .need ps t' => .need ps (pullT t t')
 | R, .same _ _ _ t => pullT R t
 | _, _ => .fail
def samesR : RT → Tree → List (St × St)
 | .fail, _ => []
 | .ask _ t f, .ask _ t' f' => samesR t t' ++ samesR f f'
 | .need _ t, .need _ t' => samesR t t'
 | R, .same p σ s t => (pull σ p s, push σ p) :: samesR R t
 | _, _ => []
def RT.wf (k : Nat) : RT → Bool
 | .leaf _ p σ => p.wf && decide (k ≤ p.h.length) && okSg k p.h.length σ
 | .ask _ t f => t.wf k && f.wf k
 | .need _ t => t.wf k
 | .fail => true
theorem pull_all {k : Nat} {Q : Exit → St → Prop} : ∀ {R : RT} {T : Tree}, pullT R T = pushT R → R.wf k = true → (∀ o ∈ samesR R T, o.1 = o.2) → R.All Q → T.All (fun e s => ∃ p σ, pull σ p s = push σ p ∧ p.wf = true ∧ k ≤ p.h.length ∧ okSg k p.h.length σ = true ∧ Q e p)
 | .leaf e p σ, .leaf e' s, h, hw, _, hq => by
  simp only [pullT, pushT, Tree.leaf.injEq] at h
  rw [h.1]
  simp only [RT.wf, Bool.and_eq_true, decide_eq_true_eq] at hw
  exact ⟨p, σ, h.2, hw.1.1, hw.1.2, hw.2, hq⟩
 | .ask b t f, .ask b' t' f', h, hw, hs, hq => by
  simp only [pullT, pushT, Tree.ask.injEq] at h
  obtain ⟨rfl, h1, h2⟩ := h
  simp only [RT.wf, Bool.and_eq_true] at hw
  exact ⟨fun hb => pull_all h1 hw.1 (fun o hm => hs o (by simp only [samesR]; exact List.mem_append_left _ hm)) (hq.1 hb), fun hb => pull_all h2 hw.2 (fun o hm => hs o (by simp only [samesR]; exact List.mem_append_right _ hm)) (hq.2 hb)⟩
 | .need ps t, .need ps' t', h, hw, hs, hq => by
  simp only [pullT, pushT, Tree.need.injEq] at h
  obtain ⟨rfl, h1⟩ := h
  exact ⟨hq.1, pull_all h1 hw hs hq.2⟩
 | R, .same p σ s t, h, hw, hs, hq => by
  have hne : R ≠ .fail := fun e => by subst e; exact hq.elim
  have h' : pullT R t = pushT R := by cases R <;> first | exact absurd rfl hne | simpa [pullT] using h
  have hs' : ∀ o ∈ (pull σ p s, push σ p) :: samesR R t, o.1 = o.2 := fun o ho => hs o (by cases R <;> first | exact absurd rfl hne | simpa [samesR] using ho)
  exact ⟨hs' (pull σ p s, push σ p) List.mem_cons_self, pull_all h' hw (fun o hm => hs' o (List.mem_cons_of_mem _ hm)) hq⟩
 | .fail, _, _, _, _, hq => hq.elim
 | .leaf .., .ask .., h, _, _, _ | .leaf .., .need .., h, _, _, _ | .leaf .., .fail, h, _, _, _ => by simp [pullT, pushT] at h
 | .ask .., .leaf .., h, _, _, _ | .ask .., .need .., h, _, _, _ | .ask .., .fail, h, _, _, _ => by simp [pullT, pushT] at h
 | .need .., .leaf .., h, _, _, _ | .need .., .ask .., h, _, _, _ | .need .., .fail, h, _, _, _ => by simp [pullT, pushT] at h

theorem Tr.fits {P : Program} {k : Nat} {c : Code} {s p : St} {σ : List Nat} {Q : Exit → St → Prop} (h : Tr P k c p Q) (hp : pull σ p s = push σ p) (hw : p.wf = true) (hk : k ≤ p.h.length) (hs : okSg k p.h.length σ = true) : Tr P k c s Q := fun ro D B w0 M0 a w ρ M hro H =>
 wpIn_mono (h ro D B w0 M0 a w _ M hro (H.fits hp hw hs)) fun _ _ _ hp => hp.then (CtxLe.refl _ _ _ _) (kept.ren hk hs ρ) (Mem.le_refl _)
theorem Tr.less {P : Program} {k : Nat} {c : Code} {s : St} {Q : Exit → St → Prop} (h : Tr P k c s fun e s' => ∃ p σ, pull σ p s' = push σ p ∧ p.wf = true ∧ k ≤ p.h.length ∧ okSg k p.h.length σ = true ∧ Q e p) : Tr P k c s Q := fun ro D B w0 M0 a w ρ M hro H =>
 wpIn_mono (h ro D B w0 M0 a w ρ M hro H) fun _ _ _ ⟨_, ρ', M', D', B', w0', M0', hc, ⟨p, σ, h1, h2, h3, h4, h5⟩, l1, l, H'⟩ => ⟨p, _, M', D', B', w0', M0', hc, h5, l1.trans (kept.ren h3 h4 ρ'), l, H'.fits h1 h2 h4⟩
theorem Tr_tree {E : Env} {L : Loops} (hK : KOk E) {k : Nat} (n bid : Nat) {c : Code} {s : St} {Q : Exit → St → Prop} (hL : LoopsOk E.P k L bid c) (R : RT) (h1 : pullT R (evCode E L n bid c s) = pushT R) (h2 : R.wf k = true)
  (h4 : (samesR R (evCode E L n bid c s)).map Prod.fst = (samesR R (evCode E L n bid c s)).map Prod.snd) (hq : R.All Q) : Tr E.P k c s Q :=
 Tr.less (evCode_sound hK n bid c s _ hL (pull_all h1 h2 (fun o ho => List.map_inj_left.1 h4 o ho) hq))
theorem wpIn_loop_ghost {F : Fence} {m : Nat} {P : Program} {Q : Exit → Act → World → Prop} {a : Act} {w : World} {c : Code} (I : Nat → Act → World → Prop) (n₀ : Nat) (h₀ : I n₀ a w)
  (round : ∀ n a w, I n a w → c.wpIn F m P (Exit.then (fun a' w' => ∃ n', n' < n ∧ I n' a' w') Q) a w) : (Code.loop c).wpIn F m P Q a w := by
 refine wpIn_loop (fun a w => ∃ n, I n a w) (fun a w => leastOf (fun n => I n a w)) ⟨n₀, h₀⟩ ?_
 intro a w hI
 refine wpIn_mono (round _ a w (leastOf_spec hI).1) ?_
 intro e a' w' hq
 cases e with
 | normal =>
  obtain ⟨n', hlt, hI'⟩ := hq
  exact show (∃ n, I n a' w') ∧ leastOf (fun n => I n a' w') < leastOf (fun n => I n a w) from ⟨⟨n', hI'⟩, Nat.lt_of_le_of_lt ((leastOf_spec ⟨n', hI'⟩).2 n' hI') hlt⟩
 | exit id => exact hq
 | goto l => exact hq
 | ret => exact hq
 | panic ch => exact hq
 | outgrown => exact hq
theorem Tr_loop {P : Program} {k : Nat} {ι : Type} (S : ι → St) (μ : ι → Nat) {c : Code} {Q : ι → Exit → St → Prop}
  (h : ∀ i, Tr P k c (S i) fun e s => match e with | .normal => ∃ j, μ j < μ i ∧ s = S j ∧ (∀ e s, Q j e s → Q i e s) | e => Q i e s) (i : ι) : Tr P k (.loop c) (S i) (Q i) := by
 intro ro D B w0 M0 a w ρ M hro H
 refine wpIn_loop_ghost (fun n a' w' => ∃ j, μ j = n ∧ (∀ e s, Q j e s → Q i e s) ∧ ∃ ρ' M' D' B' w0' M0', CtxLe D B w0 M0 D' B' w0' M0' ∧ kept k ρ ρ' ∧ M.le M' ∧ Sim D' B' w0' M0' (S j) a' w' ρ' M') (μ i) ⟨i, rfl, fun _ _ h => h, ρ, M, D, B, w0, M0, CtxLe.refl _ _ _ _, .refl _ _, Mem.le_refl _, H⟩ ?_
 rintro n a1 w1 ⟨j, rfl, hq, ρ1, M1, D1, B1, w01, M01, hc, k1, l1, H1⟩
 refine wpIn_mono (h j ro D1 B1 w01 M01 a1 w1 ρ1 M1 (hro.le hc) H1) ?_
 rintro e a2 w2 ⟨s2, ρ2, M2, D2, B2, w02, M02, hc2, hh, k2, l2, H2⟩
 cases e with
 | normal =>
  obtain ⟨j2, hlt, rfl, hqk⟩ := hh
  exact ⟨μ j2, hlt, j2, rfl, fun e s h => hq _ _ (hqk e s h), ρ2, M2, D2, B2, w02, M02, hc.trans hc2, k1.trans k2, Mem.le_trans l1 l2, H2⟩
 | _ => exact ⟨s2, ρ2, M2, D2, B2, w02, M02, hc.trans hc2, hq _ _ hh, k1.trans k2, Mem.le_trans l1 l2, H2⟩

def loopsIn : Nat → Code → List (Nat × Code)
 | bid, .loop c => [(bid, .loop c)]
 | bid, .rangeFunc f ps x y => [(bid, .rangeFunc f ps x y)]
 | bid, .seq x y => loopsIn bid x ++ loopsIn bid y
 | bid, .cond _ x y => loopsIn bid x ++ loopsIn bid y
 | _, .block id x => loopsIn id x
 | bid, .scope x => loopsIn bid x
 | _, _ => []
theorem LoopsOk.of {P : Program} {k : Nat} {L : Loops} : ∀ {c : Code} {bid : Nat}, (∀ q ∈ loopsIn bid c, ∀ s p σ T, L q.1 s = some (p, σ, T) → ∀ Q, T.All Q → ∀ s', pull σ p s' = push σ p → Tr P k q.2 s' Q) → LoopsOk P k L bid c
 | .loop c, bid, h => h (bid, .loop c) (List.mem_singleton_self _)
 | .rangeFunc f ps x y, bid, h => h (bid, .rangeFunc f ps x y) (List.mem_singleton_self _)
 | .seq _ _, _, h => ⟨LoopsOk.of fun p hp => h p (List.mem_append_left _ hp), LoopsOk.of fun p hp => h p (List.mem_append_right _ hp)⟩
 | .cond _ _ _, _, h => ⟨LoopsOk.of fun p hp => h p (List.mem_append_left _ hp), LoopsOk.of fun p hp => h p (List.mem_append_right _ hp)⟩
 | .block id x, _, h => LoopsOk.of (c := x) (bid := id) h
 | .scope x, bid, h => LoopsOk.of (c := x) (bid := bid) h
 | .skip, _, _ | .region .., _, _ | .exit _, _, _ | .label _, _, _ | .goto _, _, _ | .ret, _, _ | .refuse _, _, _ => trivial
def noLoops : Loops := fun _ _ => none
theorem LoopsOk.none {P : Program} {k : Nat} {c : Code} {bid : Nat} : LoopsOk P k noLoops bid c := LoopsOk.of fun _ _ _ _ _ _ h => by cases h
def bodyOf (f : Func) : Code := f.body.getD .skip
def loopBody : Code → Code
 | .loop c => c
 | c => c
def loopAt (f : Func) (k : Nat) : Code := ((loopsIn 9999 (bodyOf f))[k]?.map fun p => loopBody p.2).getD .skip
def slots (n : Nat) (l : List (Nat × AV)) : List AV := (List.range n).map fun i => (l.lookup i).getD .unk
theorem Tr_loopT {E : Env} (hK : KOk E) {k : Nat} (n bid : Nat) {c : Code} {ι : Type} (L : ι → Loops) (S : ι → St) (T : ι → Tree) (R : ι → RT) (μ : ι → Nat) (hL : ∀ i, LoopsOk E.P k (L i) bid c)
  (h1 : ∀ i, pullT (R i) (evCode E (L i) n bid c (S i)) = pushT (R i)) (h2 : ∀ i, (R i).wf k = true)
  (h4 : ∀ i, (samesR (R i) (evCode E (L i) n bid c (S i))).map Prod.fst = (samesR (R i) (evCode E (L i) n bid c (S i))).map Prod.snd)
  (step : ∀ i Q, (T i).All Q → (R i).All fun e s => match e with | .normal => ∃ j, μ j < μ i ∧ s = S j ∧ (T j).All Q | e => Q e s) (i : ι) (Q : Exit → St → Prop) (hq : (T i).All Q) : Tr E.P k (.loop c) (S i) Q := by
 refine Tr_loop (ι := { j : ι // (T j).All Q }) (fun j => S j.1) (fun j => μ j.1) (Q := fun _ => Q) (fun j => ?_) ⟨i, hq⟩
 refine (Tr_tree hK n bid (hL j.1) (R j.1) (h1 j.1) (h2 j.1) (h4 j.1) (step j.1 Q j.2)).mono fun e s h => ?_
 cases e with
 | normal => obtain ⟨j2, a, b, c⟩ := h; exact ⟨⟨j2, c⟩, a, b, fun _ _ h => h⟩
 | _ => exact h
def loopsOf (l : List (Nat × St × List Nat × Tree)) : Loops := fun bid _ => l.lookup bid
theorem LoopsOk.all {P : Program} {k : Nat} {L : Loops} {c : Code} {bid : Nat} {l : List (Nat × Code)} (h : loopsIn bid c = l)
  (hl : ∀ q ∈ l, ∀ s p σ T, L q.1 s = some (p, σ, T) → p.wf = true ∧ k ≤ p.h.length ∧ okSg k p.h.length σ = true ∧ ∀ Q, T.All Q → Tr P k q.2 p Q) : LoopsOk P k L bid c :=
 LoopsOk.of fun q hq s p σ T hs Q hQ _ hlk => by
  obtain ⟨a, b, c, d⟩ := hl q (h ▸ hq) s p σ T hs
  exact (d Q hQ).fits hlk a b c
theorem LoopsOk.one {P : Program} {k b : Nat} {c g : Code} {bid : Nat} {p : St} {σ : List Nat} {T : Tree} (h : loopsIn bid c = [(b, .loop g)]) (hw : p.wf = true) (hk : Nat.ble k p.h.length = true) (hs : okSg k p.h.length σ = true) (ht : ∀ Q, T.All Q → Tr P k (.loop g) p Q) :
  LoopsOk P k (loopsOf [(b, p, σ, T)]) bid c := LoopsOk.all h fun q hq s p' σ' T' hl => by
 simp only [List.mem_singleton] at hq
 subst hq
 simp only [loopsOf, List.lookup, beq_self_eq_true, Option.some.injEq, Prod.mk.injEq] at hl
 obtain ⟨rfl, rfl, rfl⟩ := hl
 exact ⟨hw, Nat.le_of_ble_eq_true hk, hs, ht⟩
theorem LoopsOk.two {P : Program} {k b b2 : Nat} {c g g2 : Code} {bid : Nat} {p p2 : St} {σ σ2 : List Nat} {T T2 : Tree} (h : loopsIn bid c = [(b, .loop g), (b2, .loop g2)]) (hne : (b2 == b) = false) (hw : p.wf = true) (hk : Nat.ble k p.h.length = true) (hs : okSg k p.h.length σ = true) (ht : ∀ Q, T.All Q → Tr P k (.loop g) p Q)
  (hw2 : p2.wf = true) (hk2 : Nat.ble k p2.h.length = true) (hs2 : okSg k p2.h.length σ2 = true) (ht2 : ∀ Q, T2.All Q → Tr P k (.loop g2) p2 Q) :
  LoopsOk P k (loopsOf [(b, p, σ, T), (b2, p2, σ2, T2)]) bid c := LoopsOk.all h fun q hq s p' σ' T' hl => by
 simp only [List.mem_cons, List.not_mem_nil, or_false] at hq
 rcases hq with rfl | rfl
 · simp only [loopsOf, List.lookup, beq_self_eq_true, Option.some.injEq, Prod.mk.injEq] at hl
   obtain ⟨rfl, rfl, rfl⟩ := hl
   exact ⟨hw, Nat.le_of_ble_eq_true hk, hs, ht⟩
 · simp only [loopsOf, List.lookup, hne, beq_self_eq_true, Option.some.injEq, Prod.mk.injEq] at hl
   obtain ⟨rfl, rfl, rfl⟩ := hl
   exact ⟨hw2, Nat.le_of_ble_eq_true hk2, hs2, ht2⟩
end Go.Eng
end
section
namespace Go.Eng
open Go.RowKit (Below)

mutual
theorem rep_cut {ρ : Loc} {M : Mem} {G : Nat → Bool → Prop} {n : Nat} : ∀ (x : AV) (v : Value), x.lt n = true → rep ρ M G x v → rep (ρ.ren id n) M G x v
 | x, v, hl, h => (rep_ren (ρ := ρ) (ρ' := ρ.ren id n) (G := G) (G' := G) (σ := id) (fun k hk => Loc.ren_at (σ := id) hk) x v hl).1 (by rw [ren_id x]; exact h)
theorem ren_id : ∀ x : AV, ren id x = x
 | .unk | .int .. | .bool _ | .str _ | .nilp | .ptr .. | .ep .. | .evp .. | .nils | .vec _ | .vsub .. | .coll _ | .yld _ | .nxt .. | .nilf | .map _ | .nilm | .nili | .grd .. | .href _ | .mapq .. => by simp [ren]
 | .agg cs => by simp [ren, renL_id cs]
 | .tup cs => by simp [ren, renL_id cs]
 | .fn f cs => by simp [ren, renL_id cs]
 | .iface t x => by simp [ren, ren_id x]
theorem renL_id : ∀ x : List AV, renL id x = x
 | [] => rfl
 | x :: xs => by simp [renL, ren_id x, renL_id xs]
end

def sig (ids : List Nat) (nid k : Nat) : Nat := if k < ids.length then ids.getD k 0 else nid + (k - ids.length)
def effsOf (σ : Nat → Nat) : Nat → List AObj → Eff
 | _, [] => []
 | k, o :: os => (σ k, renO σ o) :: effsOf σ (k + 1) os
theorem effsOf_mem {σ : Nat → Nat} : ∀ (os : List AObj) (k : Nat) (e : Nat × AObj), e ∈ effsOf σ k os → ∃ j, j < os.length ∧ e.1 = σ (k + j)
 | [], _, _, h => by simp [effsOf] at h
 | o :: os, k, e, h => by
  simp only [effsOf, List.mem_cons] at h
  rcases h with rfl | h
  · exact ⟨0, by simp, rfl⟩
  · obtain ⟨j, h1, h2⟩ := effsOf_mem os (k + 1) e h
    exact ⟨j + 1, by simpa using h1, by rw [h2]; congr 1; omega⟩
theorem mem_effsOf {σ : Nat → Nat} : ∀ (os : List AObj) (k j : Nat), j < os.length → ∃ e ∈ effsOf σ k os, e.1 = σ (k + j)
 | [], _, _, h => by simp at h
 | o :: os, k, 0, _ => ⟨_, List.mem_cons_self, rfl⟩
 | o :: os, k, j + 1, h => by
  obtain ⟨e, h1, h2⟩ := mem_effsOf os (k + 1) j (by simpa using h)
  exact ⟨e, List.mem_cons_of_mem _ h1, by rw [h2]; congr 1; omega⟩
theorem hget_effsOf {σ : Nat → Nat} {n : Nat} (hinj : ∀ i j, i < n → j < n → σ i = σ j → i = j) : ∀ (os : List AObj) (k j : Nat) (h : List AObj), k + os.length ≤ n → j < os.length → hget (applyEff h (effsOf σ k os)) (σ (k + j)) = renO σ (os.getD j .dead)
 | [], _, _, _, _, h => by simp at h
 | o :: os, k, 0, h, hn, _ => by
  simp only [effsOf, applyEff, List.foldl_cons, Nat.add_zero, List.getD_cons_zero]
  simp only [List.length_cons] at hn
  rw [show List.foldl (fun h p => hset h p.1 p.2) (hset h (σ k) (renO σ o)) (effsOf σ (k + 1) os) = applyEff (hset h (σ k) (renO σ o)) (effsOf σ (k + 1) os) from rfl]
  rw [hget_applyEff, hget_hset, if_pos rfl]
  intro e he hh
  obtain ⟨j, h1, h2⟩ := effsOf_mem os (k + 1) e he
  have := hinj _ _ (by omega) (by omega) (h2.symm.trans hh)
  omega
 | o :: os, k, j + 1, h, hn, hj => by
  simp only [effsOf, applyEff, List.foldl_cons, List.getD_cons_succ]
  simp only [List.length_cons] at hn hj
  have := hget_effsOf hinj os (k + 1) j (hset h (σ k) (renO σ o)) (by omega) (by omega)
  rw [show k + 1 + j = k + (j + 1) from by omega] at this
  exact this

def resOne (P : Program) (s : St) : ResultVar → Option AV
 | .tmp t => some (ungrd [] (s.t.getD t .unk))
 | .cell a t => match ungrd [] (s.t.getD a .unk) with
  | .ptr id off => match hget s.h id with
   | .cells _ cs => loadFrom P t cs off
   | _ => none
  | _ => none
def resList (P : Program) (s : St) : List ResultVar → Option (List AV)
 | [] => some []
 | r :: rs => match resOne P s r, resList P s rs with
  | some x, some xs => some (x :: xs)
  | _, _ => none
def resAV (P : Program) (fn : Func) (s : St) : Option AV := match resList P s fn.results.toList with
 | some [x] => some x
 | some xs => some (.tup xs)
 | none => none

section
variable {P : Program} {D : List Deferred} {B : Nat → Prop} {w0 w : World} {M0 M : Mem} {ρ : Loc} {a : Act} {s : St}
theorem rep_slot (H : Sim D B w0 M0 s a w ρ M) (i : Nat) : rep ρ M noG (ungrd [] (s.t.getD i .unk)) (a.tmps.getD i undef) := rep_ungrd (G := noG) (fun _ _ h => by cases h) (H.t.at_ i)
theorem resOne_run (H : Sim D B w0 M0 s a w ρ M) {r : ResultVar} {x : AV} (hx : resOne P s r = some x) :
  ∃ v, (match r with | .tmp t => pure (a.tmps.getD t undef) | .cell ad t => do loadVar t (← asAddr (a.tmps.getD ad undef)) : Sem Value).run P w = .ok v w ∧ rep ρ M noG x v := by
 cases r with
 | tmp t =>
  simp only [resOne, Option.some.injEq] at hx
  subst hx
  exact ⟨_, rfl, rep_slot H t⟩
 | cell ad t =>
  simp only [resOne] at hx
  split at hx
  · rename_i id off hs
    split at hx
    · rename_i ct cs hcs
      have hp := rep_slot H ad
      rw [hs] at hp
      obtain ⟨u, hu, hr⟩ := load_ptr (P := P) H.h hcs hx hp
      refine ⟨u, ?_, hr⟩
      simp only [rep] at hp
      obtain ⟨r, _, hv⟩ := hp
      show (do loadVar t (← asAddr (a.tmps.getD ad undef)) : Sem Value).run P w = _
      rw [hv] at hu ⊢
      simpa [Instr.loadAt, Instr.sureAddr, asAddr] using hu
    · cases hx
  · cases hx
theorem resList_run (H : Sim D B w0 M0 s a w ρ M) : ∀ {rs : List ResultVar} {xs : List AV}, resList P s rs = some xs →
  ∃ vs, (rs.mapM fun r => (match r with | .tmp t => pure (a.tmps.getD t undef) | .cell ad t => do loadVar t (← asAddr (a.tmps.getD ad undef)) : Sem Value)).run P w = .ok vs w ∧ repL ρ M noG xs vs
 | [], xs, h => by
  simp only [resList, Option.some.injEq] at h
  subst h
  exact ⟨[], by simp, by simp [repL]⟩
 | r :: rs, xs, h => by
  simp only [resList] at h
  split at h
  · rename_i y ys hy hys
    injection h with h
    subst h
    obtain ⟨v, hv, hr⟩ := resOne_run H hy
    obtain ⟨vs, hvs, hrs⟩ := resList_run H hys
    refine ⟨v :: vs, ?_, by simp only [repL]; exact ⟨hr, hrs⟩⟩
    simp only [List.mapM_cons, Sem.run_bind, hv, Result.andThen_ok, hvs, Sem.run_pure]
  · cases h
theorem resAV_run (H : Sim D B w0 M0 s a w ρ M) {fn : Func} {x : AV} (hx : resAV P fn s = some x) : ∃ v, (results fn a.tmps).run P w = .ok v w ∧ rep ρ M noG x v := by
 unfold resAV at hx
 cases hr : resList P s fn.results.toList with
 | none => rw [hr] at hx; cases hx
 | some xs =>
  obtain ⟨vs, hvs, hrs⟩ := resList_run H hr
  have hrun : (results fn a.tmps).run P w = .ok (if h : (⟨vs⟩ : Array Value).size = 1 then (⟨vs⟩ : Array Value)[0] else .tuple ⟨vs⟩) w := by
   unfold results
   rw [← Array.toArray_toList (xs := fn.results), List.mapM_toArray]
   simp only [Sem.run_bind, Sem.run_map]
   have : ∀ f : ResultVar → Sem Value, (f = fun r => (match r with | .tmp t => pure (a.tmps.getD t undef) | .cell ad t => do loadVar t (← asAddr (a.tmps.getD ad undef)) : Sem Value)) → (fn.results.toList.mapM f).run P w = .ok vs w := fun f hf => by rw [hf]; exact hvs
   rw [this _ (by funext r; cases r <;> rfl)]
   rfl
  refine ⟨_, hrun, ?_⟩
  rw [hr] at hx
  clear hvs hr
  match xs, vs, hrs, hx with
  | [], [], _, hx =>
   obtain rfl : AV.tup [] = x := by injection hx
   simp only [rep]
   exact ⟨[], rfl, by simp [repL]⟩
  | [y], [v], hrs, hx =>
   obtain rfl : y = x := by injection hx
   simp only [repL] at hrs
   exact hrs.1
  | y :: z :: xs, v :: u :: vs, hrs, hx =>
   obtain rfl : AV.tup (y :: z :: xs) = x := by injection hx
   have : (⟨v :: u :: vs⟩ : Array Value).size ≠ 1 := by simp
   rw [dif_neg this]
   simp only [rep]
   exact ⟨_, rfl, hrs⟩
  | [], _ :: _, hrs, _ => simp [repL] at hrs
  | [_], [], hrs, _ => simp [repL] at hrs
  | [_], _ :: _ :: _, hrs, _ => simp [repL] at hrs
  | _ :: _ :: _, [], hrs, _ => simp [repL] at hrs
  | _ :: _ :: _, [_], hrs, _ => simp [repL] at hrs
end

def coerceX (h : List AObj) : AV → AV
 | .tup cs => .tup (cs.map (coerce h))
 | x => coerce h x
theorem rep_coerceX {B : Nat → Prop} {w0 w : World} {M0 M : Mem} {ρ : Loc} {h : List AObj} (H : SimH B w0 M0 h w ρ M) {x : AV} {v : Value} (hv : rep ρ M noG x v) : rep ρ M noG (coerceX h x) v := by
 unfold coerceX
 split
 · simp only [rep] at hv ⊢
   obtain ⟨vs, h1, h2⟩ := hv
   exact ⟨vs, h1, repL_coerce H (fun _ _ => rfl) h2⟩
 · exact repC_vec H (fun _ _ => rfl) hv
def likeH : List AObj → List AObj → List AObj
 | p :: ps, o :: os => (match p with | .dead => .dead | .vols _ none => o.rest | _ => o) :: likeH ps os
 | [], _ => []
 | _ :: _, [] => []
theorem likeH_at : ∀ (p s : List AObj), likeH p s = p → ∀ i, hget p i = .dead ∨ hget p i = hget s i ∨ hget p i = (hget s i).rest
 | [], s, _, i => by simp [hget]
 | p :: ps, [], h, i => by simp [likeH] at h
 | p :: ps, x :: xs, h, i => by
  simp only [likeH, List.cons.injEq] at h
  cases i with
  | zero =>
   have h1 := h.1
   cases p
   case vols es al =>
    cases al
    · simp only at h1; simp [hget, h1]
    · simp only at h1; simp [hget, h1]
   all_goals simp only at h1 <;> simp [hget, h1]
  | succ i => simpa [hget] using likeH_at ps xs h.2 i
def fnEnds (P : Program) (fn : Func) (x : AV) (h1 : List AObj) (e : Exit) (s : St) : Prop := (match e with | .ret | .normal => True | _ => False) ∧ (resAV P fn s = some x ∨ (resAV P fn s).map (coerceX s.h) = some x) ∧ likeH h1 s.h = h1
def fnBegins (fn : Func) (args : List AV) (h0 : List AObj) : St := ⟨args ++ List.replicate (fn.ntmps - args.length) .unk, h0⟩
def okIn (n : Nat) (args : List AV) (h0 : List AObj) : Bool := h0.length == n && ltL n args && h0.all (AObj.lt n)
def okOut (n : Nat) (x : AV) (h1 : List AObj) : Bool := decide (n ≤ h1.length) && x.lt h1.length && h1.all (AObj.lt h1.length)
def okIds (ids : List Nat) (nid : Nat) : Bool := decide ids.Nodup && ids.all fun i => decide (i < nid)
theorem Sim.lessH {B : Nat → Prop} {w0 w : World} {M0 M : Mem} {ρ : Loc} {h h1 : List AObj} (H : SimH B w0 M0 h w ρ M) (hl : likeH h1 h = h1) (hw : h1.all (AObj.lt h1.length) = true) : SimH B w0 M0 h1 w (ρ.ren id h1.length) M := by
 refine ⟨fun k => ?_, fun k hk => by simp [Loc.ren, Nat.not_lt.2 hk], fun r k hr => H.own r _ (Loc.own_ren hr).2, H.mem, H.old, H.below, H.size, H.good⟩
 by_cases hd : hget h1 k = .dead
 · rw [hd]; trivial
 · have hk := hget_lt hd
   rcases likeH_at _ _ hl k with he | he
   · exact absurd he hd
   · have hobj : okObj ρ M w k (hget h1 k) := by
       rcases he with he | he
       · rw [he]; exact H.obj k
       · rw [he]; exact (H.obj k).rest
     have hlt : (hget h1 k).lt h1.length = true := by
      have := List.all_eq_true.1 hw (hget h1 k)
      refine this ?_
      simp only [hget, List.getD_eq_getElem?_getD, List.getElem?_eq_getElem hk, Option.getD_some]
      exact List.getElem_mem hk
     have hr : renO id (hget h1 k) = hget h1 k := by
      cases hget h1 k
      case vols es al => rcases al with _ | ⟨n, k⟩ <;> simp [renO]
      all_goals simp [renO, renL_id]
     exact okObj.unren (σ := id) (n := h1.length) (fun k hk => Loc.ren_at (σ := id) hk) (fun r hr => Loc.ren_own (σ := id) (fun i j _ _ h => h) hk hr) hk hlt (by rw [hr]; exact hobj)
structure Shut (rs : List Nat) (w w' : World) : Prop where
 os : w'.os = w.os
 tape : w'.tape = w.tape
 output : w'.output = w.output
 size : w'.heap.size = w.heap.size
 block : ∀ k, k ∉ rs → w'.heap[k]? = w.heap[k]?
theorem leaves_marks {F : Fence} {n : Nat} {P : Program} {fn : Func} {tmps : Array Value} {R : Ending → World → Prop} : ∀ (rs : List Nat) (w : World), rs.Nodup → (∀ r ∈ rs, w.heap[r]? = some (.deferred (some []))) →
  (∀ w', Shut rs w w' → LeavesIn F n P fn tmps R [] .returning w') → LeavesInM F n P fn tmps R (rs.map markD) .returning w
 | [], w, _, _, h => h w ⟨rfl, rfl, rfl, rfl, fun _ _ => rfl⟩
 | r :: rs, w, hn, hh, h => by
  refine ⟨nofun, .inl ⟨r, _, rfl, run_takeDeferred (hh r List.mem_cons_self), ?_⟩⟩
  obtain ⟨hr, hn⟩ := List.nodup_cons.1 hn
  refine leaves_marks rs _ hn (fun q hq => ?_) fun w' hs => ?_
  · rw [World.putObj_heap_other (fun e : q = r => hr (by rw [← e]; exact hq))]
    exact hh q (List.mem_cons_of_mem _ hq)
  · refine h w' ⟨hs.os, hs.tape, hs.output, by rw [hs.size]; simp, fun k hk => ?_⟩
    rw [hs.block k (fun hm => hk (List.mem_cons_of_mem _ hm)), World.putObj_heap_other (fun e => hk (by rw [e]; exact List.mem_cons_self))]
theorem cell_none {w : World} {b o : Nat} (x : Obj) (h : w.heap[b]? = some x) (hx : ∀ vs t q, x ≠ .cells vs t q) : w.cell? ⟨b, o, none⟩ = none := by
 unfold World.cell?
 rw [h]
 cases x <;> first | rfl | exact absurd rfl (hx _ _ _)
theorem SimH.leave {D D' : List Deferred} {B B' : Nat → Prop} {w0 w0' w w' : World} {M0 M0' M : Mem} {h : List AObj} {ρ : Loc} {rs : List Nat} (hc : CtxLe D B w0 M0 D' B' w0' M0') (H : SimH B' w0' M0' h w ρ M) (hs : Shut rs w w')
  (hrs : ∀ r ∈ rs, B' r ∧ ¬ B r ∧ w.heap[r]? = some (.deferred (some []))) (hg : ∀ w', (∀ k, B k → w'.heap[k]? = w0.heap[k]?) → Globs.G w') : SimH B w0 M0 h w' ρ M where
 obj := fun id => (H.obj id).keep (Loc.le_refl _) (Mem.le_refl _) fun r hr => ⟨hr, hs.block r fun hm => (H.own r id hr).1 (hrs r hm).1, fun _ h => h⟩
 fresh := H.fresh
 own := fun r id hr => ⟨fun hb => (H.own r id hr).1 (hc.sub r hb), by rw [hs.size]; exact (H.own r id hr).2⟩
 mem := fun b o v hv => by
  have h1 := H.mem b o v hv
  by_cases hb : b ∈ rs
  · rw [cell_none _ (hrs b hb).2.2 (by nofun)] at h1; cases h1
  · rw [← h1]; unfold World.cell?; rw [hs.block b hb]
 old := fun b o hb => (H.old b o (hc.sub b hb)).trans (hc.mem b o hb)
 below := (hc.keeps.trans (H.below.mono hc.sub)).trans ⟨hs.os, hs.tape, hs.output, by rw [hs.size]; exact Nat.le_refl _, fun k hk => hs.block k fun hm => (hrs k hm).2.1 hk⟩
 size := fun b hb => by rw [hs.size]; exact H.size b (hc.sub b hb)
 good := hg
theorem ltL_notGrd {n : Nat} {l : List AV} (h : ltL n l = true) (i : Nat) : ∀ j b x, l.getD i .unk ≠ .grd j b x := fun j b x e => by
 have := ltL_getD h i
 rw [e] at this
 simp [AV.lt] at this
theorem calls_of_Tr {P : Program} {f : FuncId} {fn : Func} {c : Code} (hf : P.funcs[f]? = some fn) (hb : fn.body = some c) {k : Nat} {args : List AV} {h0 : List AObj} {Qf : Exit → St → Prop} (h : Tr P k c (fnBegins fn args h0) Qf)
  (hQ : ∀ e s, Qf e s → (match e with | .ret | .normal => True | _ => False) ∧ ∃ x, resAV P fn s = some x) {B : Nat → Prop} {w0 w : World} {M0 M : Mem} {ρ : Loc} {vs : List Value} (H : SimH B w0 M0 h0 w ρ M) {n : Nat} (hlt : ltL n args = true) (hargs : repL ρ M noG args vs) :
  Calls P f ⟨vs⟩ w fun e w' => ∃ e' s' v ρ' M', e = .returned v ∧ Qf e' s' ∧ kept k ρ ρ' ∧ M.le M' ∧ SimH B w0 M0 s'.h w' ρ' M' ∧ ∀ x, resAV P fn s' = some x → rep ρ' M' noG x v := by
 have hlen := repL_length hargs
 have hsim : Sim [] B w0 M0 (fnBegins fn args h0) { tmps := (⟨vs⟩ : Array Value) ++ Array.replicate (fn.ntmps - (⟨vs⟩ : Array Value).size) undef, defers := [] } w ρ M := by
  refine ⟨H, ⟨by simp [fnBegins, hlen], rfl, fun i => ?_⟩⟩
  simp only [fnBegins]
  rw [List.getD_eq_getElem?_getD, Array.getD_eq_getD_getElem?]
  rcases Nat.lt_or_ge i args.length with hi | hi
  · rw [List.getElem?_append_left hi, Array.getElem?_append_left (by simpa [← hlen] using hi)]
    obtain ⟨v, hv, hr⟩ := repL_get hargs i args[i] (List.getElem?_eq_getElem hi)
    rw [List.getElem?_eq_getElem hi]
    have hv' : (⟨vs⟩ : Array Value)[i]? = some v := by simpa using hv
    rw [hv']
    simp only [Option.getD_some]
    have hcl := ltL_notGrd hlt i
    rw [List.getD_eq_getElem?_getD, List.getElem?_eq_getElem hi, Option.getD_some] at hcl
    generalize args[i] = y at hr hcl ⊢
    cases y
    case grd => exact absurd rfl (hcl _ _ _)
    all_goals exact hr
  · rw [List.getElem?_append_right hi]
    have : (List.replicate (fn.ntmps - args.length) AV.unk)[i - args.length]?.getD AV.unk = AV.unk := by
     rw [List.getElem?_replicate]; split <;> rfl
    rw [this]
    simp [repS, rep]
 refine callsIn_wide.1 (callsIn_of_wp_marks (F := Fence.wide) (n := 0) hf hb trivial (wpIn_mono (h none [] B w0 M0 _ w ρ M nofun hsim) ?_))
 rintro e a' w' ⟨s', ρ', M', D', B', w0', M0', hc, hq, hk, hM, H'⟩
 obtain ⟨hret, x, hx⟩ := hQ e s' hq
 obtain ⟨rs, hD, hnd, hrs⟩ := hc.marks
 have hrs' : ∀ r ∈ rs, B' r ∧ ¬ B r ∧ w'.heap[r]? = some (.deferred (some [])) := fun r hr => ⟨(hrs r hr).1, (hrs r hr).2.1, (H'.h.below.block r (hrs r hr).1).trans (hrs r hr).2.2⟩
 have hdef : a'.defers = rs.map markD := by rw [H'.t.defers, hD]; simp
 have fin : LeavesInM Fence.wide 0 P fn a'.tmps (fun e w' => ∃ e' s' v ρ' M', e = .returned v ∧ Qf e' s' ∧ kept k ρ ρ' ∧ M.le M' ∧ SimH B w0 M0 s'.h w' ρ' M' ∧ ∀ x, resAV P fn s' = some x → rep ρ' M' noG x v) a'.defers .returning w' := by
  rw [hdef]
  refine leaves_marks rs w' hnd (fun r hr => (hrs' r hr).2.2) fun w2 hs => ?_
  have H2 := H'.h.leave hc hs hrs' H.good
  have S2 : Sim D' B w0 M0 s' a' w2 ρ' M' := ⟨H2, H'.t⟩
  obtain ⟨v, hrun, hrep⟩ := resAV_run S2 hx
  refine ⟨v, hrun, e, s', v, ρ', M', rfl, hq, hk, hM, H2, fun y hy => ?_⟩
  rw [hx] at hy
  injection hy with hy
  rw [← hy]; exact hrep
 cases e <;> first | exact hret.elim | exact fin
theorem framed {ids : List Nat} {args : List AV} {h0 : List AObj} (hin : okIn ids.length args h0 = true) {hr : List AObj} {nid : Nat} (hids : okIds ids nid = true)
  (hhr : ∀ k o, h0[k]? = some o → hget hr (sig ids nid k) = renO (sig ids nid) o) {B : Nat → Prop} {w0 w : World} {M0 M : Mem} {hh : List AObj} {ρ : Loc} {vs : List Value} (H : SimH B w0 M0 hh w ρ M) (hle : ∀ id, hget hr id ≠ .dead → hget hh id = hget hr id)
  (hargs : repL ρ M noG (renL (sig ids nid) args) vs) :
  ∃ B' ρc, SimH B' w M h0 w ρc M ∧ repL ρc M noG args vs ∧ ltL ids.length args = true ∧
   ∀ (w' : World) (s' : List AObj) (ρ' : Loc) (M' : Mem) (v : Value) (x : AV) (h1 : List AObj), okOut ids.length x h1 = true → (∀ p ∈ effsOf (sig ids nid) 0 h1, nid ≤ p.1 → ρ p.1 = none) → likeH h1 s' = h1 → kept ids.length ρc ρ' → M.le M' → SimH B' w M s' w' ρ' M' → rep ρ' M' noG x v →
    ∃ ρ2 M2, ρ.only ρ2 (effsOf (sig ids nid) 0 h1) ∧ M.le M2 ∧ SimH B w0 M0 (applyEff hh (effsOf (sig ids nid) 0 h1)) w' ρ2 M2 ∧ rep ρ2 M2 noG (ren (sig ids nid) x) v := by
 simp only [okIn, okIds, Bool.and_eq_true, beq_iff_eq, decide_eq_true_eq, List.all_eq_true] at hin hids
 obtain ⟨⟨hn, harg⟩, hlt0⟩ := hin
 obtain ⟨hnd, hidlt⟩ := hids
 generalize hσ : sig ids nid = σ at *
 have hσlo : ∀ k, (hk : k < ids.length) → σ k = ids[k] := fun k hk => by rw [← hσ]; simp [sig, hk, List.getD_eq_getElem?_getD]
 have hσhi : ∀ k, ids.length ≤ k → σ k = nid + (k - ids.length) := fun k hk => by rw [← hσ]; simp [sig, Nat.not_lt.2 hk]
 have hσlt : ∀ k, k < ids.length → σ k < nid := fun k hk => by rw [hσlo k hk]; exact hidlt _ (List.getElem_mem hk)
 have hinj : ∀ i j, σ i = σ j → i = j := by
  intro i j hij
  rcases Nat.lt_or_ge i ids.length with hi | hi
  · rcases Nat.lt_or_ge j ids.length with hj | hj
    · rw [hσlo i hi, hσlo j hj] at hij
      exact (List.getElem_inj hnd).1 hij
    · have := hσlt i hi; rw [hσhi j hj] at hij; omega
  · rcases Nat.lt_or_ge j ids.length with hj | hj
    · have := hσlt j hj; rw [hσhi i hi] at hij; omega
    · rw [hσhi i hi, hσhi j hj] at hij; omega

 have hobj : ∀ k (hk : k < ids.length), h0[k] ≠ .dead → hget hh (σ k) = renO σ h0[k] := by
  intro k hk hne
  have h1 := hhr k h0[k] (List.getElem?_eq_getElem (by omega))
  have h2 : hget hr (σ k) ≠ .dead := by
   rw [h1]
   intro hd
   exact hne (renO_dead hd)
  have h3 := hle (σ k) h2
  exact h3.trans h1
 let B' : Nat → Prop := fun b => b < w.heap.size ∧ ∀ k, k < ids.length → ρ.own b ≠ some (σ k)
 let ρc : Loc := ρ.ren σ ids.length
 have hρc : ∀ k, k < ids.length → ρ (σ k) = ρc k := fun k hk => Loc.ren_at hk
 have hBB : ∀ b, B b → B' b := fun b hb => ⟨H.size b hb, fun k hk ho => (H.own b _ ho).1 hb⟩
 have hsimH : SimH B' w M h0 w ρc M := by
  refine ⟨fun k => ?_, fun k hk => by simp [ρc, Loc.ren, Nat.not_lt.2 (hn ▸ hk)], fun r k hr => ?_, H.mem, fun _ _ _ => rfl, Keeps.refl _ _, fun b hb => hb.1, fun w2 h2 => H.good w2 fun k hk => (h2 k (hBB k hk)).trans (H.below.block k hk)⟩
  · rcases Nat.lt_or_ge k ids.length with hk | hk
    · have hg : hget h0 k = h0[k] := by simp [hget, List.getD_eq_getElem?_getD, List.getElem?_eq_getElem (show k < h0.length by omega)]
      rw [hg]
      by_cases hdd : h0[k] = .dead
      · rw [hdd]; trivial
      have := H.obj (σ k)
      rw [hobj k hk hdd] at this
      exact this.unren hρc (fun r hr => Loc.ren_own (fun i j _ _ h => hinj i j h) hk hr) hk (hlt0 _ (List.getElem_mem _))
    · have hg : hget h0 k = .dead := by simp [hget, List.getD_eq_getElem?_getD, List.getElem?_eq_none (show h0.length ≤ k by omega)]
      rw [hg]; trivial
  · obtain ⟨hk, ho⟩ := Loc.own_ren hr
    exact ⟨fun hb => hb.2 k hk ho, (H.own r _ ho).2⟩
 have hargs' := (repL_ren (G' := noG) hρc args vs harg).1 hargs
 refine ⟨B', ρc, hsimH, hargs', harg, ?_⟩
 intro w' s' ρ' M' v x h1 hout hfr hlk hkept hM H' hrep
 simp only [okOut, Bool.and_eq_true, decide_eq_true_eq, List.all_eq_true] at hout
 obtain ⟨⟨hn1, hx1⟩, hlt1⟩ := hout
 have H1 := Sim.lessH H' hlk (by simpa using hlt1)
 have hrep := rep_cut _ _ hx1 hrep
 have hk0 : ∀ k r, k < ids.length → ρ' k = some r → (ρ'.ren id h1.length) k = some r := fun k r hk hr => by simp [Loc.ren, show k < h1.length by omega, hr]
 generalize hρ1 : Loc.ren ρ' id h1.length = ρ1 at H1 hrep
 rw [hρ1] at hk0
 let ρ2 : Loc := ⟨fun i => open Classical in if c : ∃ k, k < h1.length ∧ i = σ k then ρ1 c.choose else ρ i, fun r => open Classical in if B' r then ρ.own r else (ρ1.own r).map σ⟩
 have hρ2 : ∀ k, k < h1.length → ρ2 (σ k) = ρ1 k := by
  intro k hk
  have hc : ∃ k', k' < h1.length ∧ σ k = σ k' := ⟨k, hk, rfl⟩
  simp only [ρ2]
  rw [dif_pos hc, ← hinj _ _ hc.choose_spec.2]
 have heffs : ∀ i, (∃ k, k < h1.length ∧ i = σ k) ∨ ((∀ e ∈ effsOf σ 0 h1, e.1 ≠ i) ∧ ∀ k, k < h1.length → i ≠ σ k) := by
  intro i
  by_cases hc : ∃ k, k < h1.length ∧ i = σ k
  · exact .inl hc
  · refine .inr ⟨fun e he hh => ?_, fun k hk hh => hc ⟨k, hk, hh⟩⟩
    obtain ⟨j, h2, h3⟩ := effsOf_mem _ _ _ he
    exact hc ⟨j, h2, by rw [← hh, h3]; simp⟩
 have hsame : ∀ i, (∀ e ∈ effsOf σ 0 h1, e.1 ≠ i) → ρ2 i = ρ i := by
  intro i hi
  simp only [ρ2]
  rw [dif_neg]
  rintro ⟨k, hk, rfl⟩
  obtain ⟨e, he, h3⟩ := mem_effsOf (σ := σ) h1 0 k hk
  exact hi e he (by rw [h3, Nat.zero_add])
 have hle2 : ρ.le ρ2 := by
  intro i r hr
  by_cases hc : ∃ k, k < h1.length ∧ i = σ k
  · obtain ⟨k, hk, rfl⟩ := hc
    rw [hρ2 k hk]
    rcases Nat.lt_or_ge k ids.length with hlo | hhi
    · exact hk0 k r hlo (hkept k r hlo (by rw [← hρc k hlo]; exact hr))
    · obtain ⟨e, he, h3⟩ := mem_effsOf (σ := σ) h1 0 k hk
      rw [Nat.zero_add] at h3
      have := hfr e he (by rw [h3, hσhi k hhi]; omega)
      rw [h3, hr] at this
      cases this
  · simp only [ρ2]
    rw [dif_neg hc]
    exact hr
 refine ⟨ρ2, M', ⟨hle2, hsame⟩, hM, ?_, (rep_ren hρ2 x v hx1).2 hrep⟩
 have hgi : ∀ k, k < h1.length → hget (applyEff hh (effsOf σ 0 h1)) (σ k) = renO σ (hget h1 k) := by
  intro k hk
  have := hget_effsOf (σ := σ) (n := h1.length) (fun i j _ _ => hinj i j) h1 0 k hh (by omega) hk
  rw [Nat.zero_add] at this
  exact this
 refine ⟨fun i => ?_, fun i hi => ?_, fun r i hr => ?_, H1.mem, fun b o hb => (H'.old b o (hBB b hb)).trans (H.old b o hb), H.below.trans (H1.below.mono hBB), fun b hb => Nat.lt_of_lt_of_le (H.size b hb) H1.below.size, H.good⟩
 · rcases heffs i with ⟨k, hk, rfl⟩ | ⟨hne, hnk⟩
   · rw [hgi k hk]
     have ho := H1.obj k
     by_cases hd : hget h1 k = .dead
     · rw [hd]; trivial
     · exact ho.ren hρ2 (fun r hr => by
         have hnb := (H1.own r k hr).1
         simp only [ρ2]
         rw [if_neg hnb, hr]; rfl) hk (by
         have : hget h1 k = h1[k] := by simp [hget, List.getD_eq_getElem?_getD, List.getElem?_eq_getElem hk]
         rw [this]
         exact hlt1 _ (List.getElem_mem hk))
   · rw [hget_applyEff _ _ _ hne]
     by_cases hd : hget hh i = .dead
     · rw [hd]; trivial
     · have hBr : ∀ r, ρ.own r = some i → B' r := fun r hr => ⟨(H.own r i hr).2, fun k hk hko => hnk k (by omega) (by rw [hr] at hko; injection hko)⟩
       exact (H.obj i).keep hle2 hM fun r hr => ⟨by simp only [ρ2]; rw [if_pos (hBr r hr)]; exact hr, H1.below.block r (hBr r hr), fun off hm => by rw [H'.old r off (hBr r hr)]; exact hm⟩
 · rcases heffs i with ⟨k, hk, rfl⟩ | ⟨hne, hnk⟩
   · obtain ⟨e, he, h2⟩ := mem_effsOf (σ := σ) h1 0 k hk
     have := (len_applyEff (effsOf σ 0 h1) hh).2 e he
     rw [h2, Nat.zero_add] at this
     omega
   · rw [hsame i hne]
     exact H.fresh i (Nat.le_trans (len_applyEff _ _).1 hi)
 · simp only [ρ2] at hr
   split at hr
   · exact ⟨(H.own r i hr).1, Nat.lt_of_lt_of_le (H.own r i hr).2 H1.below.size⟩
   · rename_i hnb
     cases ho : ρ1.own r with
     | none => rw [ho] at hr; cases hr
     | some k => exact ⟨fun hb => hnb (hBB r hb), (H1.own r k ho).2⟩
theorem sound_of_Tr {P : Program} {f : FuncId} {fn : Func} {c : Code} (hf : P.funcs[f]? = some fn) (hb : fn.body = some c) {ids : List Nat} {args : List AV} {h0 : List AObj} {x : AV} {h1 : List AObj}
  (h : Tr P ids.length c (fnBegins fn args h0) (fnEnds P fn x h1)) (hin : okIn ids.length args h0 = true) (hout : okOut ids.length x h1 = true) {hr : List AObj} {nid : Nat} (hids : okIds ids nid = true)
  (hhr : ∀ k o, h0[k]? = some o → hget hr (sig ids nid k) = renO (sig ids nid) o) : KSound P f (renL (sig ids nid) args) hr nid (ren (sig ids nid) x) (effsOf (sig ids nid) 0 h1) := by
 intro B w0 M0 hh w ρ M vs H hle hfr hargs
 obtain ⟨B', ρc, H0, hargs0, hlt, back⟩ := framed hin hids hhr H hle hargs
 refine (calls_of_Tr hf hb h (fun e s hq => ⟨hq.1, ?_⟩) H0 hlt hargs0).mono ?_
 · rcases hq.2.1 with h | h
   · exact ⟨_, h⟩
   · obtain ⟨y, hy, _⟩ := Option.map_eq_some_iff.1 h; exact ⟨y, hy⟩
 · rintro e w' ⟨e', s', v, ρ', M', rfl, hq, hk, hM, H', hv⟩
   have hrep : rep ρ' M' noG x v := by
    rcases hq.2.1 with hx | hx
    · exact hv x hx
    · obtain ⟨y, hy, rfl⟩ := Option.map_eq_some_iff.1 hx
      exact rep_coerceX H' (hv y hy)
   obtain ⟨ρ2, M2, k1, k2, k3, k4⟩ := back w' s'.h ρ' M' v x h1 hout hfr hq.2.2 hk hM H' hrep
   exact ⟨v, ρ2, M2, rfl, k1, k2, k3, k4⟩
end Go.Eng
end
section
namespace Go.Eng

structure Fact (P : Program) where
 f : FuncId
 K : List AV → List AObj → Nat → Option Out
 ent : ∀ (vs : Array Value) (w : World), (callFunc f vs).run P w = .ok (.enter f vs) w
 ok : ∀ args h nid x effs need, K args h nid = some (x, effs, need) → (∀ p ∈ need, p) → KSound P f args h nid x effs
structure FactP (P : Program) where
 f : FuncId
 K : List AV → Option (Bool × Value)
 ent : ∀ (vs : Array Value) (w : World), (callFunc f vs).run P w = .ok (.enter f vs) w
 ok : ∀ args b pv, K args = some (b, pv) → KPSound P f args b pv
structure FactB (P : Program) where
 f : FuncId
 K : List AV → List AObj → Nat → Option (Bool × Out × Out)
 ent : ∀ (vs : Array Value) (w : World), (callFunc f vs).run P w = .ok (.enter f vs) w
 ok : ∀ args h nid b x1 e1 n1 x2 e2 n2, K args h nid = some (b, (x1, e1, n1), (x2, e2, n2)) → (b = true → (∀ p ∈ n1, p) → KSound P f args h nid x1 e1) ∧ (b = false → (∀ p ∈ n2, p) → KSound P f args h nid x2 e2)
structure FactY (P : Program) where
 K : List AV → List AObj → Nat → Option YB
 ok : ∀ args h nid r, K args h nid = some r → YBOk P args h nid r
def askY {P : Program} (args : List AV) (h : List AObj) (nid : Nat) : List (FactY P) → Option YB
 | [] => none
 | x :: r => match x.K args h nid with
   | some o => some o
   | none => askY args h nid r
theorem askY_some {P : Program} {args : List AV} {h : List AObj} {nid : Nat} {o : YB} : ∀ {l : List (FactY P)}, askY args h nid l = some o → ∃ x : FactY P, x.K args h nid = some o
 | [], e => by cases e
 | x :: r, e => by
  unfold askY at e
  split at e
  · rename_i o' ho; injection e with e; subst e; exact ⟨x, ho⟩
  · exact askY_some e
def askK {P : Program} (f : FuncId) (args : List AV) (h : List AObj) (nid : Nat) : List (Fact P) → Option Out
 | [] => none
 | x :: r => if x.f = f then match x.K args h nid with
   | some o => some o
   | none => askK f args h nid r
  else askK f args h nid r
def askP {P : Program} (f : FuncId) (args : List AV) : List (FactP P) → Option (Bool × Value)
 | [] => none
 | x :: r => if x.f = f then match x.K args with
   | some o => some o
   | none => askP f args r
  else askP f args r
def askB {P : Program} (f : FuncId) (args : List AV) (h : List AObj) (nid : Nat) : List (FactB P) → Option (Bool × Out × Out)
 | [] => none
 | x :: r => if x.f = f then match x.K args h nid with
   | some o => some o
   | none => askB f args h nid r
  else askB f args h nid r
theorem askK_some {P : Program} {f : FuncId} {args : List AV} {h : List AObj} {nid : Nat} {o : Out} : ∀ {l : List (Fact P)}, askK f args h nid l = some o → ∃ x : Fact P, x.f = f ∧ x.K args h nid = some o
 | [], e => by cases e
 | x :: r, e => by
  unfold askK at e
  split at e
  · rename_i hf
    split at e
    · rename_i o' ho; injection e with e; subst e; exact ⟨x, hf, ho⟩
    · exact askK_some e
  · exact askK_some e
theorem askP_some {P : Program} {f : FuncId} {args : List AV} {o : Bool × Value} : ∀ {l : List (FactP P)}, askP f args l = some o → ∃ x : FactP P, x.f = f ∧ x.K args = some o
 | [], e => by cases e
 | x :: r, e => by
  unfold askP at e
  split at e
  · rename_i hf
    split at e
    · rename_i o' ho; injection e with e; subst e; exact ⟨x, hf, ho⟩
    · exact askP_some e
  · exact askP_some e
theorem askB_some {P : Program} {f : FuncId} {args : List AV} {h : List AObj} {nid : Nat} {o : Bool × Out × Out} : ∀ {l : List (FactB P)}, askB f args h nid l = some o → ∃ x : FactB P, x.f = f ∧ x.K args h nid = some o
 | [], e => by cases e
 | x :: r, e => by
  unfold askB at e
  split at e
  · rename_i hf
    split at e
    · rename_i o' ho; injection e with e; subst e; exact ⟨x, hf, ho⟩
    · exact askB_some e
  · exact askB_some e
def envOf {P : Program} (ks : List (Fact P)) (ps : List (FactP P)) (bs : List (FactB P)) (ck : TypeId → Option Kind) (wr : Bool := false) (ys : List (FactY P) := []) : Env where
 P := P
 K := fun f args h nid => askK f args h nid ks
 KP := fun f args => askP f args ps
 KB := fun f args h nid => askB f args h nid bs
 Y := fun args h nid => askY args h nid ys
 ck := ck
 wr := wr
theorem kok {P : Program} (ks : List (Fact P)) (ps : List (FactP P)) (bs : List (FactB P)) (ck : TypeId → Option Kind) (wr : Bool) (ys : List (FactY P) := []) : KOk (envOf ks ps bs ck wr ys) where
 yOk := fun args hh nid r h => by obtain ⟨x, h'⟩ := askY_some h; exact x.ok _ _ _ _ h'
 pEnters := fun f args r h vs w => by obtain ⟨x, rfl, _⟩ := askP_some h; exact x.ent vs w
 pSound := fun f args b pv h => by obtain ⟨x, rfl, h'⟩ := askP_some h; exact x.ok _ _ _ h'
 bEnters := fun f args hh nid r h vs w => by obtain ⟨x, rfl, _⟩ := askB_some h; exact x.ent vs w
 bSound := fun f args hh nid b x1 e1 n1 x2 e2 n2 h => by obtain ⟨x, rfl, h'⟩ := askB_some h; exact x.ok _ _ _ _ _ _ _ _ _ _ h'
 enters := fun f args hh nid r h vs w => by obtain ⟨x, rfl, _⟩ := askK_some h; exact x.ent vs w
 sound := fun f args hh nid x effs need h hn => by obtain ⟨y, rfl, h'⟩ := askK_some h; exact y.ok _ _ _ _ _ _ h' hn
theorem ent_of {P : Program} {f : FuncId} {fn : Func} {c : Code} (hf : P.funcs[f]? = some fn) (hb : fn.body = some c) (hname : (fn.name == "runtime.NumGoroutine") = false) (vs : Array Value) (w : World) :
  (callFunc f vs).run P w = .ok (.enter f vs) w := Go.MuLone.run_callFunc_enter hf hname hb vs w
theorem sound_pure {P : Program} {f : FuncId} {fn : Func} {c : Code} (hf : P.funcs[f]? = some fn) (hb : fn.body = some c) {args : List AV} {x : AV} (hin : okIn 0 args [] = true) (hout : okOut 0 x [] = true)
  (h : Tr P 0 c (fnBegins fn args []) (fnEnds P fn x [])) (hr : List AObj) (nid : Nat) (hra : renL (sig [] nid) args = args := by rfl) (hrx : ren (sig [] nid) x = x := by rfl) : KSound P f args hr nid x [] := by
 have := sound_of_Tr hf hb (ids := []) (h0 := []) (h1 := []) h hin hout (hr := hr) (nid := nid) (by simp [okIds]) (by simp)
 rw [hra, hrx] at this
 exact this
end Go.Eng
namespace Go.Eng
theorem KSound.drop {P : Program} {f : FuncId} {args : List AV} {hr : List AObj} {nid : Nat} {x : AV} {effs : Eff} (h : KSound P f args hr nid x effs) (hs : ∀ e ∈ effs, hget hr e.1 = e.2 ∧ e.2 ≠ .dead ∧ e.1 < nid) : KSound P f args hr nid x [] := by
 intro B w0 M0 hh w ρ M vs H hle _ hargs
 have hid : ∀ e ∈ effs, hget hh e.1 = e.2 ∧ ∃ r, ρ e.1 = some r := by
  intro e he
  obtain ⟨h1, h2, h3⟩ := hs e he
  have h4 : hget hh e.1 = e.2 := (hle e.1 (by rw [h1]; exact h2)).trans h1
  refine ⟨h4, ?_⟩
  have := H.obj e.1
  rw [h4] at this
  generalize e.2 = o at this h2
  cases o with
  | dead => exact absurd rfl h2
  | cells t cs => obtain ⟨r, _, h1, _⟩ := this; exact ⟨_, h1⟩
  | vec f c => obtain ⟨r, h1, _⟩ := this; exact ⟨_, h1⟩
  | map m => obtain ⟨r, _, _, h1, _⟩ := this; exact ⟨_, h1⟩
  | iter s pos => obtain ⟨r, h1, _⟩ := this; exact ⟨_, h1⟩
  | loop site t pd => obtain ⟨r, _, h1, _⟩ := this; exact ⟨_, h1⟩
  | var t p f c => obtain ⟨r, _, _, h1, _⟩ := this; exact ⟨_, h1⟩
  | vols es al => obtain ⟨r, _, _, _, h1, _⟩ := this; exact ⟨_, h1⟩
 refine (h B w0 M0 hh w ρ M vs H hle (fun p hp hn => absurd (hs p hp).2.2 (by omega)) hargs).mono ?_
 rintro e w' ⟨v, ρ', M', he, h1, h2, h3, h4⟩
 have hget_eq : ∀ (effs : Eff) (hh : List AObj), (∀ e ∈ effs, hget hh e.1 = e.2) → ∀ id, hget (applyEff hh effs) id = hget hh id := by
  intro effs
  induction effs with
  | nil => intro hh _ id; rfl
  | cons e effs ih =>
   intro hh hq id
   simp only [applyEff, List.foldl_cons]
   have hset_eq : ∀ id, hget (hset hh e.1 e.2) id = hget hh id := by
    intro id
    rw [hget_hset]
    split
    · rename_i e1; rw [← e1]; exact (hq e List.mem_cons_self).symm
    · rfl
   have := ih (hset hh e.1 e.2) (fun e' he' => by rw [hset_eq]; exact hq e' (List.mem_cons_of_mem _ he')) id
   rw [hset_eq] at this
   exact this
 refine ⟨v, ρ', M', he, ⟨h1.1, fun id _ => ?_⟩, h2, ?_, h4⟩
 · by_cases hc : ∃ e ∈ effs, e.1 = id
   · obtain ⟨e, he, rfl⟩ := hc
     obtain ⟨_, r, hr⟩ := hid e he
     rw [hr]
     exact h1.1 _ _ hr
   · exact h1.2 id fun e he hh => hc ⟨e, he, hh⟩
 · refine SimH.congr h3 (fun id => (hget_eq effs hh (fun e he => (hid e he).1) id).symm) fun id hl => ?_
   by_cases hc : ∃ e ∈ effs, e.1 = id
   · obtain ⟨e, he, rfl⟩ := hc
     obtain ⟨_, r, hr⟩ := hid e he
     have := H.fresh e.1 hl
     rw [this] at hr
     cases hr
   · rw [h1.2 id fun e he hh => hc ⟨e, he, hh⟩]
     exact H.fresh id hl
end Go.Eng
namespace Go.Eng

theorem wrap_i64 {n : Int} (h1 : -9223372036854775808 ≤ n) (h2 : n ≤ 9223372036854775807) : IntKind.i64.wrap n = n := by
 simp [IntKind.wrap, IntKind.min, IntKind.max, IntKind.signed, IntKind.bits] <;> (try split) <;> omega
theorem wrap_u64 {n : Int} (h1 : 0 ≤ n) (h2 : n ≤ 18446744073709551615) : IntKind.u64.wrap n = n := by
 simp [IntKind.wrap, IntKind.min, IntKind.max, IntKind.signed, IntKind.bits] <;> (try split) <;> omega
theorem wrap_succ {i : Nat} (h : i < 9223372036854775807) : IntKind.i64.wrap ((i : Int) + 1) = ((i + 1 : Nat) : Int) := by
 rw [wrap_i64] <;> omega
end Go.Eng
end
