/- The engine, part 2: what a state's objects stand for, and how they turn. -/
import Derived.Test.YtofimhodpemmiaaEng1
namespace Go.Eng
open Go.RowKit (Below)

/-- The blocks B are as they were; the streams too; no block has gone. -/
structure Keeps (B : Nat → Prop) (w w' : World) : Prop where
  os : w'.os = w.os
  tape : w'.tape = w.tape
  output : w'.output = w.output
  size : w.heap.size ≤ w'.heap.size
  block : ∀ k, B k → w'.heap[k]? = w.heap[k]?
theorem Keeps.refl (B : Nat → Prop) (w : World) : Keeps B w w := ⟨rfl, rfl, rfl, Nat.le_refl _, fun _ _ => rfl⟩
theorem Keeps.trans {B : Nat → Prop} {a b c : World} (h : Keeps B a b) (k : Keeps B b c) : Keeps B a c :=
  ⟨k.os.trans h.os, k.tape.trans h.tape, k.output.trans h.output, Nat.le_trans h.size k.size, fun i hi => (k.block i hi).trans (h.block i hi)⟩
theorem Keeps.mono {B B' : Nat → Prop} {w w' : World} (h : Keeps B w w') (hB : ∀ k, B' k → B k) : Keeps B' w w' := ⟨h.os, h.tape, h.output, h.size, fun k hk => h.block k (hB k hk)⟩
theorem Keeps.drew {B : Nat → Prop} {a w : World} (h : Keeps B a w) : Keeps B a w.drew := ⟨h.os, h.tape, h.output, h.size, h.block⟩
theorem Keeps.alloc {B : Nat → Prop} {a w : World} (h : Keeps B a w) (hB : ∀ b, B b → b < w.heap.size) (o : Obj) : Keeps B a (w.alloc o) :=
  h.trans ⟨rfl, rfl, rfl, by simp, fun k hk => Below.heap_alloc _ _ _ (hB k hk)⟩
theorem Keeps.below {n : Nat} {w w' : World} (h : Keeps (fun b => b < n) w w') : Below n w w' := ⟨h.os, h.tape, h.output, h.size, h.block⟩

def own : Option RL → Option Nat
  | some (.blk r) => some r
  | some (.hdr (.slice (some a) _ _)) => some a.block
  | _ => none
def repEs (ρ : Loc) (M : Mem) : List (AV × AV) → List MapEntry → Prop
  | [], [] => True
  | x :: xs, e :: es => rep ρ M noG x.1 e.key ∧ rep ρ M noG x.2 e.val ∧ repEs ρ M xs es
  | _, _ => False
theorem repEs_mono {ρ ρ' : Loc} {M M' : Mem} (hρ : ρ.le ρ') (hM : M.le M') : ∀ (xs : List (AV × AV)) (es : List MapEntry), repEs ρ M xs es → repEs ρ' M' xs es
  | [], [], _ => by simp [repEs]
  | x :: xs, e :: es, h => by simp only [repEs] at h ⊢; exact ⟨rep_mono hρ hM (fun _ _ h => h) _ _ h.1, rep_mono hρ hM (fun _ _ h => h) _ _ h.2.1, repEs_mono hρ hM xs es h.2.2⟩
  | [], _ :: _, h => by simp [repEs] at h
  | _ :: _, [], h => by simp [repEs] at h

def okObj (ρ : Loc) (M : Mem) (w : World) (B : Nat → Prop) (id : Nat) : AObj → Prop
  | .dead => True
  | .cells t cs => ∃ r vs, ρ id = some (.blk r) ∧ w.heap[r]? = some (.cells ⟨vs⟩ t (0, 0)) ∧ repL ρ M noG cs vs ∧ ¬ B r ∧ ∀ off, M r off = none
  | .vec c => ∃ hv, ρ id = some (.hdr hv) ∧ repC M (DEP + 1) c hv ∧ ((hv = .slice none 0 0 ∧ c.len = 0) ∨ ∃ r cap vs t, hv = .slice (some ⟨r, 0, none⟩) c.len cap ∧ w.heap[r]? = some (.cells ⟨vs⟩ t (0, 0)) ∧ ¬ B r ∧
      vs.length = cap * c.esz ∧ c.len ≤ cap ∧ cap ≤ maxLen ∧ ∀ off, c.len * c.esz ≤ off → M r off = none)
  | .map es => ∃ r ents clock, ρ id = some (.blk r) ∧ w.heap[r]? = some (.map ents clock) ∧ ¬ B r ∧ repEs ρ M es ents.toList

/-- What the objects h stand for in the world w: their places ρ; the cells M that stay; the world w0 below block B is as it was. -/
structure SimH (B : Nat → Prop) (w0 : World) (M0 : Mem) (h : List AObj) (w : World) (ρ : Loc) (M : Mem) : Prop where
  obj : ∀ id, okObj ρ M w B id (hget h id)
  fresh : ∀ id, h.length ≤ id → ρ id = none
  inj : ∀ i j r, hget h i ≠ .dead → hget h j ≠ .dead → own (ρ i) = some r → own (ρ j) = some r → i = j
  mem : ∀ b o v, M b o = some v → w.cell? ⟨b, o, none⟩ = some v
  old : ∀ b o, B b → M b o = M0 b o
  below : Keeps B w0 w
  size : ∀ b, B b → b < w.heap.size

theorem okObj.keep {ρ ρ' : Loc} {M M' : Mem} {w w' : World} {B : Nat → Prop} {id : Nat} {o : AObj} (h : okObj ρ M w B id o) (hρ : ρ.le ρ') (hM : M.le M')
    (hw : ∀ r, own (ρ id) = some r → w'.heap[r]? = w.heap[r]?) (hm : ∀ r off, own (ρ id) = some r → M r off = none → M' r off = none) : okObj ρ' M' w' B id o := by
  cases o with
  | dead => trivial
  | cells t cs =>
    obtain ⟨r, vs, h1, h2, h3, h4, h5⟩ := h
    exact ⟨r, vs, hρ _ _ h1, by rw [hw r (by simp [own, h1])]; exact h2, repL_mono hρ hM (fun _ _ h => h) _ _ h3, h4, fun off => hm r off (by simp [own, h1]) (h5 off)⟩
  | vec c =>
    obtain ⟨hv, h1, h2, h3⟩ := h
    refine ⟨hv, hρ _ _ h1, repC_mono hM _ _ _ h2, ?_⟩
    rcases h3 with h3 | ⟨r, cap, vs, t, e, h4, h5, h6, h7, h8, h9⟩
    · exact .inl h3
    · subst e
      exact .inr ⟨r, cap, vs, t, rfl, by rw [hw r (by simp [own, h1])]; exact h4, h5, h6, h7, h8, fun off ho => hm r off (by simp [own, h1]) (h9 off ho)⟩
  | map es =>
    obtain ⟨r, ents, clock, h1, h2, h3, h4⟩ := h
    exact ⟨r, ents, clock, hρ _ _ h1, by rw [hw r (by simp [own, h1])]; exact h2, h3, repEs_mono hρ hM _ _ h4⟩

/-- Where a live object lies. -/
theorem SimH.own_lt {B : Nat → Prop} {w0 w : World} {M0 M : Mem} {h : List AObj} {ρ : Loc} (H : SimH B w0 M0 h w ρ M) {i r : Nat} (hi : hget h i ≠ .dead) (hr : own (ρ i) = some r) : r < w.heap.size ∧ ¬ B r := by
  have := H.obj i
  cases ho : hget h i with
  | dead => exact absurd ho hi
  | cells t cs =>
    rw [ho] at this
    obtain ⟨r', vs, h1, h2, _, h4, _⟩ := this
    simp only [own, h1, Option.some.injEq] at hr
    subst hr
    exact ⟨(Array.getElem?_eq_some_iff.1 h2).1, h4⟩
  | vec c =>
    rw [ho] at this
    obtain ⟨hv, h1, _, h3⟩ := this
    rcases h3 with ⟨rfl, _⟩ | ⟨r', cap, vs, t, rfl, h4, h5, _⟩
    · simp [own, h1] at hr
    · simp only [own, h1, Option.some.injEq] at hr
      subst hr
      exact ⟨(Array.getElem?_eq_some_iff.1 h4).1, h5⟩
  | map es =>
    rw [ho] at this
    obtain ⟨r', ents, clock, h1, h2, h3, _⟩ := this
    simp only [own, h1, Option.some.injEq] at hr
    subst hr
    exact ⟨(Array.getElem?_eq_some_iff.1 h2).1, h3⟩

/-- One object turns (or is made). -/
theorem SimH.update {B : Nat → Prop} {w0 w w' : World} {M0 M M' : Mem} {h : List AObj} {ρ ρ' : Loc} (H : SimH B w0 M0 h w ρ M) (id : Nat) (o : AObj)
    (hρ : ∀ i, i ≠ id → ρ' i = ρ i) (hle : ρ.le ρ') (hM : M.le M') (hnew : okObj ρ' M' w' B id o)
    (hw : ∀ i r, i ≠ id → hget h i ≠ .dead → own (ρ i) = some r → w'.heap[r]? = w.heap[r]? ∧ ∀ off, M r off = none → M' r off = none)
    (hdis : ∀ i r, i ≠ id → hget h i ≠ .dead → o ≠ .dead → own (ρ' id) = some r → own (ρ i) ≠ some r)
    (hmem : ∀ b o v, M' b o = some v → w'.cell? ⟨b, o, none⟩ = some v) (hold : ∀ b o, B b → M' b o = M b o) (hb : Keeps B w w') : SimH B w0 M0 (hset h id o) w' ρ' M' where
  obj := fun i => by
    rw [hget_hset]
    by_cases e : id = i
    · subst e; rw [if_pos rfl]; exact hnew
    · rw [if_neg e]
      by_cases hd : hget h i = .dead
      · rw [hd]; trivial
      · exact (H.obj i).keep hle hM (fun r hr => (hw i r (Ne.symm e) hd hr).1) (fun r off hr => (hw i r (Ne.symm e) hd hr).2 off)
  fresh := fun i hi => by
    rw [length_hset] at hi
    rw [hρ i (by omega)]
    exact H.fresh i (by omega)
  inj := fun i j r hi hj h1 h2 => by
    rw [hget_hset] at hi hj
    by_cases ei : id = i
    · by_cases ej : id = j
      · omega
      · rw [if_neg ej] at hj; rw [if_pos ei] at hi; subst ei
        rw [hρ j (Ne.symm ej)] at h2
        exact absurd h2 (hdis j r (Ne.symm ej) hj hi h1)
    · rw [if_neg ei] at hi
      rw [hρ i (Ne.symm ei)] at h1
      by_cases ej : id = j
      · rw [if_pos ej] at hj; subst ej
        exact absurd h1 (hdis i r (Ne.symm ei) hi hj h2)
      · rw [if_neg ej] at hj
        rw [hρ j (Ne.symm ej)] at h2
        exact H.inj i j r hi hj h1 h2
  mem := hmem
  old := fun b o hb' => (hold b o hb').trans (H.old b o hb')
  below := H.below.trans hb
  size := fun b h => Nat.lt_of_lt_of_le (H.size b h) hb.size

/-- The world turns where no object lies. -/
theorem SimH.world {B : Nat → Prop} {w0 w w' : World} {M0 M M' : Mem} {h : List AObj} {ρ : Loc} (H : SimH B w0 M0 h w ρ M) (hM : M.le M')
    (hw : ∀ i r, hget h i ≠ .dead → own (ρ i) = some r → w'.heap[r]? = w.heap[r]? ∧ ∀ off, M r off = none → M' r off = none)
    (hmem : ∀ b o v, M' b o = some v → w'.cell? ⟨b, o, none⟩ = some v) (hold : ∀ b o, B b → M' b o = M b o) (hb : Keeps B w w') : SimH B w0 M0 h w' ρ M' where
  obj := fun i => by
    by_cases hd : hget h i = .dead
    · rw [hd]; trivial
    · exact (H.obj i).keep (Loc.le_refl _) hM (fun r hr => (hw i r hd hr).1) (fun r off hr => (hw i r hd hr).2 off)
  fresh := H.fresh
  inj := H.inj
  mem := hmem
  old := fun b o hb' => (hold b o hb').trans (H.old b o hb')
  below := H.below.trans hb
  size := fun b h => Nat.lt_of_lt_of_le (H.size b h) hb.size

theorem SimH.drew {B : Nat → Prop} {w0 w : World} {M0 M : Mem} {h : List AObj} {ρ : Loc} (H : SimH B w0 M0 h w ρ M) : SimH B w0 M0 h w.drew ρ M :=
  H.world (Mem.le_refl _) (fun _ _ _ _ => ⟨rfl, fun _ h => h⟩) (fun b o v hv => by rw [World.cell?_drew]; exact H.mem b o v hv) (fun _ _ _ => rfl) ((Keeps.refl _ _).drew)

/-- A new place. -/
def Loc.put (ρ : Loc) (id : Nat) (r : RL) : Loc := fun i => if i = id then some r else ρ i
theorem Loc.le_put {ρ : Loc} {id : Nat} {r : RL} (h : ρ id = none) : ρ.le (ρ.put id r) := fun i x hx => by
  unfold Loc.put
  split
  · rename_i e; subst e; rw [h] at hx; cases hx
  · exact hx
theorem Mem.none_new {B : Nat → Prop} {w0 w : World} {M0 M : Mem} {h : List AObj} {ρ : Loc} (H : SimH B w0 M0 h w ρ M) {r : Nat} (hr : w.heap.size ≤ r) (off : Nat) : M r off = none := by
  cases hm : M r off with
  | none => rfl
  | some v =>
    have := World.block_lt_of_cell? w _ (H.mem r off v hm)
    simp at this
    omega

/-- A new block of cells. -/
theorem SimH.alloc {B : Nat → Prop} {w0 w : World} {M0 M : Mem} {h : List AObj} {ρ : Loc} (H : SimH B w0 M0 h w ρ M) (id : Nat) (hid : ρ id = none) (t : TypeId) (cs : List AV) (vs : List Value)
    (hr : repL ρ M noG cs vs) : SimH B w0 M0 (hset h id (.cells t cs)) (w.alloc (.cells ⟨vs⟩ t)) (ρ.put id (.blk w.heap.size)) M := by
  have hle := Loc.le_put (r := .blk w.heap.size) hid
  refine H.update id _ (fun i hi => by simp [Loc.put, hi]) hle (Mem.le_refl _) ?_ ?_ ?_ ?_ (fun _ _ _ => rfl) ((Keeps.refl _ _).alloc H.size _)
  · refine ⟨w.heap.size, vs, by simp [Loc.put], (by show (w.heap.push _)[w.heap.size]? = _; simp), repL_mono hle (Mem.le_refl _) (fun _ _ h => h) _ _ hr, fun hB => Nat.lt_irrefl _ (H.size _ hB), fun off => Mem.none_new H (Nat.le_refl _) off⟩
  · intro i r _ hd hr
    exact ⟨Below.heap_alloc _ _ _ (H.own_lt hd hr).1, fun _ h => h⟩
  · intro i r _ hd _ h1 h2
    have := (H.own_lt hd h2).1
    simp [Loc.put, own] at h1
    omega
  · intro b o v hv
    have := H.mem b o v hv
    rw [World.cell?_alloc_lt _ _ _ (World.block_lt_of_cell? w _ this)]
    exact this

theorem repL_length {ρ : Loc} {M : Mem} {G : Nat → Bool → Prop} : ∀ {xs : List AV} {vs : List Value}, repL ρ M G xs vs → xs.length = vs.length
  | [], [], _ => rfl
  | _ :: xs, _ :: vs, h => by simp only [repL] at h; simp [repL_length h.2]
  | [], _ :: _, h => by simp [repL] at h
  | _ :: _, [], h => by simp [repL] at h
theorem repL_get {ρ : Loc} {M : Mem} {G : Nat → Bool → Prop} : ∀ {xs : List AV} {vs : List Value} (_ : repL ρ M G xs vs) (i : Nat) (x : AV), xs[i]? = some x → ∃ v, vs[i]? = some v ∧ rep ρ M G x v
  | [], [], _, i, x, hx => by simp at hx
  | y :: xs, v :: vs, h, 0, x, hx => by simp only [repL] at h; simp at hx; subst hx; exact ⟨v, rfl, h.1⟩
  | y :: xs, v :: vs, h, i + 1, x, hx => by simp only [repL] at h; simp at hx; simpa using repL_get h.2 i x hx
  | [], _ :: _, h, _, _, _ => by simp [repL] at h
  | _ :: _, [], h, _, _, _ => by simp [repL] at h
theorem repL_drop {ρ : Loc} {M : Mem} {G : Nat → Bool → Prop} (n : Nat) : ∀ {xs : List AV} {vs : List Value}, repL ρ M G xs vs → repL ρ M G (xs.drop n) (vs.drop n) := by
  induction n with
  | zero => intro xs vs h; simpa using h
  | succ n ih =>
    intro xs vs h
    cases xs <;> cases vs <;> simp only [repL] at h <;> simp [repL]
    exact ih h.2
theorem repL_take {ρ : Loc} {M : Mem} {G : Nat → Bool → Prop} (n : Nat) : ∀ {xs : List AV} {vs : List Value}, repL ρ M G xs vs → repL ρ M G (xs.take n) (vs.take n) := by
  induction n with
  | zero => intro xs vs h; simp [repL]
  | succ n ih =>
    intro xs vs h
    cases xs <;> cases vs <;> simp only [repL] at h <;> simp [repL]
    exact ⟨h.1, ih h.2⟩
theorem repL_append {ρ : Loc} {M : Mem} {G : Nat → Bool → Prop} : ∀ {xs : List AV} {vs : List Value} {ys : List AV} {us : List Value}, repL ρ M G xs vs → repL ρ M G ys us → repL ρ M G (xs ++ ys) (vs ++ us)
  | [], [], _, _, _, h => by simpa using h
  | _ :: _, _ :: _, _, _, h, k => by simp only [repL] at h; simp only [List.cons_append, repL]; exact ⟨h.1, repL_append h.2 k⟩
  | [], _ :: _, _, _, h, _ => by simp [repL] at h
  | _ :: _, [], _, _, h, _ => by simp [repL] at h
/-- The same of values. -/
def spliceV (vs : List Value) : Nat → List Value → List Value
  | 0, us => us ++ vs.drop us.length
  | n + 1, us => match vs with
    | [] => []
    | v :: vs => v :: spliceV vs n us
theorem repL_splice {ρ : Loc} {M : Mem} {G : Nat → Bool → Prop} (n : Nat) : ∀ {xs : List AV} {vs : List Value} {ys : List AV} {us : List Value}, repL ρ M G xs vs → repL ρ M G ys us → repL ρ M G (splice xs n ys) (spliceV vs n us) := by
  induction n with
  | zero =>
    intro xs vs ys us h k
    simp only [splice, spliceV]
    rw [repL_length k]
    exact repL_append k (repL_drop _ h)
  | succ n ih =>
    intro xs vs ys us h k
    cases xs <;> cases vs <;> simp only [repL] at h <;> simp only [splice, spliceV, repL]
    exact ⟨h.1, ih h.2 k⟩
theorem spliceV_length (n : Nat) : ∀ (vs us : List Value), n + us.length ≤ vs.length → (spliceV vs n us).length = vs.length := by
  induction n with
  | zero => intro vs us h; simp [spliceV]; omega
  | succ n ih =>
    intro vs us h
    cases vs with
    | nil => simp at h
    | cons v vs => simp only [spliceV, List.length_cons]; rw [ih vs us (by simp at h; omega)]
theorem splice_nil (n : Nat) : ∀ (vs : List Value), spliceV vs n [] = vs := by
  induction n with
  | zero => intro vs; simp [spliceV]
  | succ n ih => intro vs; cases vs <;> simp [spliceV, ih]
theorem splice_set (n : Nat) (u : Value) (us : List Value) : ∀ (vs : List Value), n < vs.length → spliceV (vs.set n u) (n + 1) us = spliceV vs n (u :: us) := by
  induction n with
  | zero =>
    intro vs h
    cases vs with
    | nil => simp at h
    | cons v vs => simp [spliceV]
  | succ n ih =>
    intro vs h
    cases vs with
    | nil => simp at h
    | cons v vs =>
      simp only [List.set_cons_succ, spliceV]
      rw [ih vs (by simpa using h)]
end Go.Eng
