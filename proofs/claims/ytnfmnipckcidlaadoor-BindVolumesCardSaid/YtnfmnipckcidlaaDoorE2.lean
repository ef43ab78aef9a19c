/- The engine, part 2: what a state's objects stand for, and how they turn. -/
import Derived.Test.YtnfmnipckcidlaaDoorE1
import Derived.Test.YtnfmnipckcidlaaDoorGlobs
set_option linter.unusedVariables false
set_option linter.unusedSimpArgs false
namespace Go.Eng
open Go.RowKit (Below)


/-- The blocks B are as they were; the streams too; no block has gone. -/
structure Keeps (B : Nat → Prop) (w w' : World) : Prop where
  os : w'.os = w.os
  tape : w'.tape = w.tape
  output : w'.output = w.output
  size : w.heap.size ≤ w'.heap.size
  block : ∀ k, B k → w'.heap[k]? = w.heap[k]?
theorem Keeps.refl (B : Nat → Prop) (w : World) : Keeps B w w := ⟨rfl, rfl, rfl, Nat.le_refl _, fun _ _ => rfl⟩
theorem Keeps.trans {B : Nat → Prop} {a b c : World} (h : Keeps B a b) (k : Keeps B b c) : Keeps B a c :=
  ⟨k.os.trans h.os, k.tape.trans h.tape, k.output.trans h.output, Nat.le_trans h.size k.size, fun i hi => (k.block i hi).trans (h.block i hi)⟩
theorem Keeps.mono {B B' : Nat → Prop} {w w' : World} (h : Keeps B w w') (hB : ∀ k, B' k → B k) : Keeps B' w w' := ⟨h.os, h.tape, h.output, h.size, fun k hk => h.block k (hB k hk)⟩
theorem Keeps.drew {B : Nat → Prop} {a w : World} (h : Keeps B a w) : Keeps B a w.drew := ⟨h.os, h.tape, h.output, h.size, h.block⟩
theorem Keeps.alloc {B : Nat → Prop} {a w : World} (h : Keeps B a w) (hB : ∀ b, B b → b < w.heap.size) (o : Obj) : Keeps B a (w.alloc o) :=
  h.trans ⟨rfl, rfl, rfl, by simp, fun k hk => Below.heap_alloc _ _ _ (hB k hk)⟩
theorem Keeps.below {n : Nat} {w w' : World} (h : Keeps (fun b => b < n) w w') : Below n w w' := ⟨h.os, h.tape, h.output, h.size, h.block⟩

/-- A cell of an element. -/
def repE (M : Mem) (x : AV) (u : Value) : Prop := match x with
  | .coll c' => repC M DEP c' u
  | x => sc x u
theorem repE_mono {M M' : Mem} (h : M.le M') {x : AV} {u : Value} (hx : repE M x u) : repE M' x u := by
  cases x <;> first | exact hx | exact repC_mono h _ _ _ hx
/-- The cells vs of one element x of kind k. -/
def repX (M : Mem) (k : Kind) (x : k.Ty) (vs : List Value) : Prop := vs.length = k.esz ∧ ∀ (j : Nat) (y : AV), (k.enc x)[j]? = some y → ∃ u : Value, vs[j]? = some u ∧ repE M y u
theorem repX_mono {M M' : Mem} (h : M.le M') {k : Kind} {x : k.Ty} {vs : List Value} (hx : repX M k x vs) : repX M' k x vs :=
  ⟨hx.1, fun j y hy => let ⟨u, h1, h2⟩ := hx.2 j y hy; ⟨u, h1, repE_mono h h2⟩⟩
/-- The value v of one element x of kind k. -/
def repV (M : Mem) (k : Kind) (x : k.Ty) (v : Value) : Prop := (if k.isAgg then ∃ us, v = .agg us else ∀ us, v ≠ .agg us) ∧ repX M k x v.cells.toList
theorem repV_mono {M M' : Mem} (h : M.le M') {k : Kind} {x : k.Ty} {v : Value} (hx : repV M k x v) : repV M' k x v := ⟨hx.1, repX_mono h hx.2⟩
/-- The cells vs of the elements of c, in a row. -/
def elems (M : Mem) (c : Coll) (vs : List Value) : Prop := ∀ (i : Nat), i < c.len → ∀ (j : Nat) (x : AV), (c.get i)[j]? = some x → ∃ u : Value, vs[i * c.esz + j]? = some u ∧ repE M x u
theorem elems_mono {M M' : Mem} (h : M.le M') {c : Coll} {vs : List Value} (hx : elems M c vs) : elems M' c vs :=
  fun i hi j x hj => let ⟨u, h1, h2⟩ := hx i hi j x hj; ⟨u, h1, repE_mono h h2⟩
def repEs (M : Mem) (k v : Kind) : List (k.Ty × v.Ty) → List MapEntry → Prop
  | [], [] => True
  | x :: xs, e :: es => repV M k x.1 e.key ∧ repV M v x.2 e.val ∧ repEs M k v xs es
  | _, _ => False
theorem repEs_mono {M M' : Mem} (hM : M.le M') {k v : Kind} : ∀ (xs : List (k.Ty × v.Ty)) (es : List MapEntry), repEs M k v xs es → repEs M' k v xs es
  | [], [], _ => by simp [repEs]
  | x :: xs, e :: es, h => by simp only [repEs] at h ⊢; exact ⟨repV_mono hM h.1, repV_mono hM h.2.1, repEs_mono hM xs es h.2.2⟩
  | [], _ :: _, h => by simp [repEs] at h
  | _ :: _, [], h => by simp [repEs] at h

/-- A slice of its own: its header. -/
def okVec (ρ : Loc) (M : Mem) (w : World) (id : Nat) (f : Bool) (c : Coll) (hv : Value) : Prop :=
  (hv = .slice none 0 0 ∧ c.len = 0) ∨ ∃ r cap vs t, hv = .slice (some ⟨r, 0, none⟩) c.len cap ∧ ρ.own r = some id ∧ w.heap[r]? = some (.cells ⟨vs⟩ t (0, 0)) ∧
    vs.length = cap * c.esz ∧ c.len ≤ cap ∧ cap ≤ maxLen ∧ elems M c vs ∧ (∀ off, (f = false ∨ c.len * c.esz ≤ off) → M r off = none) ∧ (f = true → ∀ off u, off < c.len * c.esz → vs[off]? = some u → M r off = some u)
def okObj (ρ : Loc) (M : Mem) (w : World) (id : Nat) : AObj → Prop
  | .dead => True
  | .cells t cs => ∃ r vs, ρ id = some (.blk r) ∧ ρ.own r = some id ∧ w.heap[r]? = some (.cells ⟨vs⟩ t (0, 0)) ∧ repL ρ M noG cs vs ∧ ∀ off, M r off = none
  | .vec f c => ∃ hv, ρ id = some (.hdr hv) ∧ okVec ρ M w id f c hv
  | .map m => ∃ r ents clock, ρ id = some (.blk r) ∧ ρ.own r = some id ∧ w.heap[r]? = some (.map ents clock) ∧ repEs M m.k m.v m.es ents.toList
  | .iter s pos => ∃ r, ρ id = some (.blk r) ∧ ρ.own r = some id ∧ w.heap[r]? = some (.stringIter s pos) ∧ ∀ off, M r off = none
  | .loop site t pd => ∃ r rec, ρ id = some (.blk r) ∧ ρ.own r = some id ∧ w.heap[r]? = some (.loop rec) ∧ Globs.site site = (rec.params, rec.assign, rec.body) ∧ rec.state = (if pd.isNone then .ready else .done) ∧ rec.pending = pd ∧ repL ρ M noG t rec.tmps.toList ∧ ∀ off, M r off = none

/-- What the objects h stand for in the world w: their places ρ; the cells M that stay; the world w0 below block B is as it was. -/
structure SimH (B : Nat → Prop) (w0 : World) (M0 : Mem) (h : List AObj) (w : World) (ρ : Loc) (M : Mem) : Prop where
  obj : ∀ id, okObj ρ M w id (hget h id)
  fresh : ∀ id, h.length ≤ id → ρ id = none
  own : ∀ r id, ρ.own r = some id → ¬ B r ∧ r < w.heap.size
  mem : ∀ b o v, M b o = some v → w.cell? ⟨b, o, none⟩ = some v
  old : ∀ b o, B b → M b o = M0 b o
  below : Keeps B w0 w
  size : ∀ b, B b → b < w.heap.size
  good : ∀ w', (∀ k, B k → w'.heap[k]? = w0.heap[k]?) → Globs.G w'

theorem okVec.keep {ρ ρ' : Loc} {M M' : Mem} {w w' : World} {id : Nat} {f : Bool} {c : Coll} {hv : Value} (h : okVec ρ M w id f c hv) (hM : M.le M')
    (hw : ∀ r, ρ.own r = some id → ρ'.own r = some id ∧ w'.heap[r]? = w.heap[r]? ∧ ∀ off, M r off = none → M' r off = none) : okVec ρ' M' w' id f c hv := by
  rcases h with h | ⟨r, cap, vs, t, e, h4, h5, h6, h7, h8, h9, h11, h12⟩
  · exact .inl h
  · obtain ⟨k1, k2, k3⟩ := hw r h4
    exact .inr ⟨r, cap, vs, t, e, k1, by rw [k2]; exact h5, h6, h7, h8, elems_mono hM h9, fun off ho => k3 off (h11 off ho), fun hf off u ho hu => hM _ _ _ (h12 hf off u ho hu)⟩
theorem okObj.keep {ρ ρ' : Loc} {M M' : Mem} {w w' : World} {id : Nat} {o : AObj} (h : okObj ρ M w id o) (hρ : ρ.le ρ') (hM : M.le M')
    (hw : ∀ r, ρ.own r = some id → ρ'.own r = some id ∧ w'.heap[r]? = w.heap[r]? ∧ ∀ off, M r off = none → M' r off = none) : okObj ρ' M' w' id o := by
  cases o with
  | dead => trivial
  | cells t cs =>
    obtain ⟨r, vs, h1, h2, h3, h4, h5⟩ := h
    obtain ⟨k1, k2, k3⟩ := hw r h2
    exact ⟨r, vs, hρ _ _ h1, k1, by rw [k2]; exact h3, repL_mono hρ hM (fun _ _ h => h) _ _ h4, fun off => k3 off (h5 off)⟩
  | vec f c => obtain ⟨hv, h1, h2⟩ := h; exact ⟨hv, hρ _ _ h1, h2.keep hM hw⟩
  | map m =>
    obtain ⟨r, ents, clock, h1, h2, h3, h4⟩ := h
    obtain ⟨k1, k2, k3⟩ := hw r h2
    exact ⟨r, ents, clock, hρ _ _ h1, k1, by rw [k2]; exact h3, repEs_mono hM _ _ h4⟩
  | iter s pos =>
    obtain ⟨r, h1, h2, h3, h4⟩ := h
    obtain ⟨k1, k2, k3⟩ := hw r h2
    exact ⟨r, hρ _ _ h1, k1, by rw [k2]; exact h3, fun off => k3 off (h4 off)⟩
  | loop site t pd =>
    obtain ⟨r, rec, h1, h2, h3, q1, q2, q3, h4, h5⟩ := h
    obtain ⟨k1, k2, k3⟩ := hw r h2
    exact ⟨r, rec, hρ _ _ h1, k1, by rw [k2]; exact h3, q1, q2, q3, repL_mono hρ hM (fun _ _ h => h) _ _ h4, fun off => k3 off (h5 off)⟩

/-- One object turns (or is made). -/
theorem SimH.update {B : Nat → Prop} {w0 w w' : World} {M0 M M' : Mem} {h : List AObj} {ρ ρ' : Loc} (H : SimH B w0 M0 h w ρ M) (id : Nat) (o : AObj)
    (hρ : ∀ i, i ≠ id → ρ' i = ρ i) (hle : ρ.le ρ') (hM : M.le M') (hnew : okObj ρ' M' w' id o)
    (hw : ∀ i r, i ≠ id → hget h i ≠ .dead → ρ.own r = some i → ρ'.own r = some i ∧ w'.heap[r]? = w.heap[r]? ∧ ∀ off, M r off = none → M' r off = none)
    (hown : ∀ r i, ρ'.own r = some i → ¬ B r ∧ r < w'.heap.size)
    (hmem : ∀ b o v, M' b o = some v → w'.cell? ⟨b, o, none⟩ = some v) (hold : ∀ b o, B b → M' b o = M b o) (hb : Keeps B w w') : SimH B w0 M0 (hset h id o) w' ρ' M' where
  obj := fun i => by
    rw [hget_hset]
    by_cases e : id = i
    · subst e; rw [if_pos rfl]; exact hnew
    · rw [if_neg e]
      by_cases hd : hget h i = .dead
      · rw [hd]; trivial
      · exact (H.obj i).keep hle hM fun r hr => hw i r (Ne.symm e) hd hr
  fresh := fun i hi => by
    rw [length_hset] at hi
    rw [hρ i (by omega)]
    exact H.fresh i (by omega)
  own := hown
  mem := hmem
  old := fun b o hb' => (hold b o hb').trans (H.old b o hb')
  below := H.below.trans hb
  size := fun b h => Nat.lt_of_lt_of_le (H.size b h) hb.size
  good := H.good

/-- The world turns where no object lies. -/
theorem SimH.world {B : Nat → Prop} {w0 w w' : World} {M0 M M' : Mem} {h : List AObj} {ρ : Loc} (H : SimH B w0 M0 h w ρ M) (hM : M.le M')
    (hw : ∀ i r, hget h i ≠ .dead → ρ.own r = some i → w'.heap[r]? = w.heap[r]? ∧ ∀ off, M r off = none → M' r off = none)
    (hmem : ∀ b o v, M' b o = some v → w'.cell? ⟨b, o, none⟩ = some v) (hold : ∀ b o, B b → M' b o = M b o) (hb : Keeps B w w') : SimH B w0 M0 h w' ρ M' where
  obj := fun i => by
    by_cases hd : hget h i = .dead
    · rw [hd]; trivial
    · exact (H.obj i).keep (Loc.le_refl _) hM fun r hr => ⟨hr, hw i r hd hr⟩
  fresh := H.fresh
  own := fun r i hr => ⟨(H.own r i hr).1, Nat.lt_of_lt_of_le (H.own r i hr).2 hb.size⟩
  mem := hmem
  old := fun b o hb' => (hold b o hb').trans (H.old b o hb')
  below := H.below.trans hb
  size := fun b h => Nat.lt_of_lt_of_le (H.size b h) hb.size
  good := H.good
/-- An object is let go. -/
theorem SimH.kill {B : Nat → Prop} {w0 w : World} {M0 M : Mem} {h : List AObj} {ρ : Loc} (H : SimH B w0 M0 h w ρ M) (id : Nat) : SimH B w0 M0 (hset h id .dead) w ρ M :=
  H.update id .dead (fun _ _ => rfl) (Loc.le_refl _) (Mem.le_refl _) trivial (fun _ _ _ _ hr => ⟨hr, rfl, fun _ h => h⟩) (fun r i hr => H.own r i hr) H.mem (fun _ _ _ => rfl) (Keeps.refl _ _)

theorem SimH.drew {B : Nat → Prop} {w0 w : World} {M0 M : Mem} {h : List AObj} {ρ : Loc} (H : SimH B w0 M0 h w ρ M) : SimH B w0 M0 h w.drew ρ M :=
  H.world (Mem.le_refl _) (fun _ _ _ _ => ⟨rfl, fun _ h => h⟩) (fun b o v hv => by rw [World.cell?_drew]; exact H.mem b o v hv) (fun _ _ _ => rfl) ((Keeps.refl _ _).drew)

/-- A new place, of block r. -/
def Loc.put (ρ : Loc) (id : Nat) (x : RL) (r : Nat) : Loc := ⟨fun i => if i = id then some x else ρ i, fun b => if b = r then some id else ρ.own b⟩
theorem Loc.le_put {ρ : Loc} {id r : Nat} {x : RL} (h : ρ id = none) : ρ.le (ρ.put id x r) := fun i y hx => by
  simp only [Loc.put]
  split
  · rename_i e; subst e; rw [h] at hx; cases hx
  · exact hx
/-- A new place without a block. -/
def Loc.put0 (ρ : Loc) (id : Nat) (x : RL) : Loc := ⟨fun i => if i = id then some x else ρ i, ρ.own⟩
theorem Loc.le_put0 {ρ : Loc} {id : Nat} {x : RL} (h : ρ id = none) : ρ.le (ρ.put0 id x) := fun i y hx => by
  simp only [Loc.put0]
  split
  · rename_i e; subst e; rw [h] at hx; cases hx
  · exact hx
theorem Mem.none_new {B : Nat → Prop} {w0 w : World} {M0 M : Mem} {h : List AObj} {ρ : Loc} (H : SimH B w0 M0 h w ρ M) {r : Nat} (hr : w.heap.size ≤ r) (off : Nat) : M r off = none := by
  cases hm : M r off with
  | none => rfl
  | some v =>
    have := World.block_lt_of_cell? w _ (H.mem r off v hm)
    simp at this
    omega

/-- A new block, of a new object. -/
theorem SimH.allocO {B : Nat → Prop} {w0 w : World} {M0 M : Mem} {h : List AObj} {ρ : Loc} (H : SimH B w0 M0 h w ρ M) (id : Nat) (hid : ρ id = none) (o : AObj) (x : RL) (b : Obj) (hnew : okObj (ρ.put id x w.heap.size) M (w.alloc b) id o) :
    SimH B w0 M0 (hset h id o) (w.alloc b) (ρ.put id x w.heap.size) M := by
  have hle := Loc.le_put (r := w.heap.size) (x := x) hid
  refine H.update id _ (fun i hi => by simp [Loc.put, hi]) hle (Mem.le_refl _) hnew ?_ ?_ ?_ (fun _ _ _ => rfl) ((Keeps.refl _ _).alloc H.size _)
  · intro i r _ hd hr
    have hlt := (H.own r i hr).2
    exact ⟨by simp only [Loc.put]; rw [if_neg (by omega)]; exact hr, Below.heap_alloc _ _ _ hlt, fun _ h => h⟩
  · intro r i hr
    simp only [Loc.put] at hr
    split at hr
    · rename_i e; subst e; exact ⟨fun hB => Nat.lt_irrefl _ (H.size _ hB), by simp⟩
    · exact ⟨(H.own r i hr).1, by have := (H.own r i hr).2; simp; omega⟩
  · intro b o v hv
    have := H.mem b o v hv
    rw [World.cell?_alloc_lt _ _ _ (World.block_lt_of_cell? w _ this)]
    exact this
/-- Block r, which is nobody's, becomes the new object's. -/
theorem SimH.take {B : Nat → Prop} {w0 w w' : World} {M0 M M' : Mem} {h : List AObj} {ρ : Loc} (H : SimH B w0 M0 h w ρ M) (id : Nat) (hid : ρ id = none) (o : AObj) (x : RL) (r : Nat)
    (hfree : ∀ i, ρ.own r = some i → hget h i = .dead) (hB : ¬ B r) (hlt : r < w'.heap.size) (hw : ∀ k, k ≠ r → k < w.heap.size → w'.heap[k]? = w.heap[k]?) (hk : Keeps B w w') (hM : M.le M')
    (hMr : ∀ b o, b ≠ r → M' b o = M b o) (hmr : ∀ o v, M' r o = some v → w'.cell? ⟨r, o, none⟩ = some v) (hnew : okObj (ρ.put id x r) M' w' id o) : SimH B w0 M0 (hset h id o) w' (ρ.put id x r) M' := by
  refine H.update id _ (fun i hi => by simp [Loc.put, hi]) (Loc.le_put hid) hM hnew ?_ ?_ ?_ ?_ hk
  · intro i r' _ hd hr
    have hne : r' ≠ r := fun e => hd (hfree i (e ▸ hr))
    exact ⟨by simp only [Loc.put]; rw [if_neg hne]; exact hr, hw r' hne (H.own r' i hr).2, fun off ho => by rw [hMr r' off hne]; exact ho⟩
  · intro r' i hr
    simp only [Loc.put] at hr
    split at hr
    · rename_i e; subst e; exact ⟨hB, hlt⟩
    · exact ⟨(H.own r' i hr).1, Nat.lt_of_lt_of_le (H.own r' i hr).2 hk.size⟩
  · intro b o v hv
    by_cases e : b = r
    · subst e; exact hmr o v hv
    · rw [hMr b o e] at hv
      have hc := H.mem b o v hv
      have hb := World.block_lt_of_cell? w _ hc
      rw [← hc]
      unfold World.cell?
      rw [hw b e hb]
  · intro b o hb
    exact hMr b o fun e => hB (e ▸ hb)
/-- A new block of cells. -/
theorem SimH.alloc {B : Nat → Prop} {w0 w : World} {M0 M : Mem} {h : List AObj} {ρ : Loc} (H : SimH B w0 M0 h w ρ M) (id : Nat) (hid : ρ id = none) (t : TypeId) (cs : List AV) (vs : List Value)
    (hr : repL ρ M noG cs vs) : SimH B w0 M0 (hset h id (.cells t cs)) (w.alloc (.cells ⟨vs⟩ t)) (ρ.put id (.blk w.heap.size) w.heap.size) M := by
  have hle := Loc.le_put (r := w.heap.size) (x := .blk w.heap.size) hid
  refine H.allocO id hid _ _ _ ?_
  exact ⟨w.heap.size, vs, by simp [Loc.put], by simp [Loc.put], (by show (w.heap.push _)[w.heap.size]? = _; simp), repL_mono hle (Mem.le_refl _) (fun _ _ h => h) _ _ hr, fun off => Mem.none_new H (Nat.le_refl _) off⟩

theorem repL_length {ρ : Loc} {M : Mem} {G : Nat → Bool → Prop} : ∀ {xs : List AV} {vs : List Value}, repL ρ M G xs vs → xs.length = vs.length
  | [], [], _ => rfl
  | _ :: xs, _ :: vs, h => by simp only [repL] at h; simp [repL_length h.2]
  | [], _ :: _, h => by simp [repL] at h
  | _ :: _, [], h => by simp [repL] at h
theorem repL_get {ρ : Loc} {M : Mem} {G : Nat → Bool → Prop} : ∀ {xs : List AV} {vs : List Value} (_ : repL ρ M G xs vs) (i : Nat) (x : AV), xs[i]? = some x → ∃ v, vs[i]? = some v ∧ rep ρ M G x v
  | [], [], _, i, x, hx => by simp at hx
  | y :: xs, v :: vs, h, 0, x, hx => by simp only [repL] at h; simp at hx; subst hx; exact ⟨v, rfl, h.1⟩
  | y :: xs, v :: vs, h, i + 1, x, hx => by simp only [repL] at h; simp at hx; simpa using repL_get h.2 i x hx
  | [], _ :: _, h, _, _, _ => by simp [repL] at h
  | _ :: _, [], h, _, _, _ => by simp [repL] at h
theorem repL_drop {ρ : Loc} {M : Mem} {G : Nat → Bool → Prop} (n : Nat) : ∀ {xs : List AV} {vs : List Value}, repL ρ M G xs vs → repL ρ M G (xs.drop n) (vs.drop n) := by
  induction n with
  | zero => intro xs vs h; simpa using h
  | succ n ih =>
    intro xs vs h
    cases xs <;> cases vs <;> simp only [repL] at h <;> simp [repL]
    exact ih h.2
theorem repL_take {ρ : Loc} {M : Mem} {G : Nat → Bool → Prop} (n : Nat) : ∀ {xs : List AV} {vs : List Value}, repL ρ M G xs vs → repL ρ M G (xs.take n) (vs.take n) := by
  induction n with
  | zero => intro xs vs h; simp [repL]
  | succ n ih =>
    intro xs vs h
    cases xs <;> cases vs <;> simp only [repL] at h <;> simp [repL]
    exact ⟨h.1, ih h.2⟩
theorem repL_append {ρ : Loc} {M : Mem} {G : Nat → Bool → Prop} : ∀ {xs : List AV} {vs : List Value} {ys : List AV} {us : List Value}, repL ρ M G xs vs → repL ρ M G ys us → repL ρ M G (xs ++ ys) (vs ++ us)
  | [], [], _, _, _, h => by simpa using h
  | _ :: _, _ :: _, _, _, h, k => by simp only [repL] at h; simp only [List.cons_append, repL]; exact ⟨h.1, repL_append h.2 k⟩
  | [], _ :: _, _, _, h, _ => by simp [repL] at h
  | _ :: _, [], _, _, h, _ => by simp [repL] at h
/-- The same of values. -/
def spliceV (vs : List Value) : Nat → List Value → List Value
  | 0, us => us ++ vs.drop us.length
  | n + 1, us => match vs with
    | [] => []
    | v :: vs => v :: spliceV vs n us
theorem repL_splice {ρ : Loc} {M : Mem} {G : Nat → Bool → Prop} (n : Nat) : ∀ {xs : List AV} {vs : List Value} {ys : List AV} {us : List Value}, repL ρ M G xs vs → repL ρ M G ys us → repL ρ M G (splice xs n ys) (spliceV vs n us) := by
  induction n with
  | zero =>
    intro xs vs ys us h k
    simp only [splice, spliceV]
    rw [repL_length k]
    exact repL_append k (repL_drop _ h)
  | succ n ih =>
    intro xs vs ys us h k
    cases xs <;> cases vs <;> simp only [repL] at h <;> simp only [splice, spliceV, repL]
    exact ⟨h.1, ih h.2 k⟩
theorem spliceV_length (n : Nat) : ∀ (vs us : List Value), n + us.length ≤ vs.length → (spliceV vs n us).length = vs.length := by
  induction n with
  | zero => intro vs us h; simp [spliceV]; omega
  | succ n ih =>
    intro vs us h
    cases vs with
    | nil => simp at h
    | cons v vs => simp only [spliceV, List.length_cons]; rw [ih vs us (by simp at h; omega)]
theorem splice_nil (n : Nat) : ∀ (vs : List Value), spliceV vs n [] = vs := by
  induction n with
  | zero => intro vs; simp [spliceV]
  | succ n ih => intro vs; cases vs <;> simp [spliceV, ih]
theorem splice_set (n : Nat) (u : Value) (us : List Value) : ∀ (vs : List Value), n < vs.length → spliceV (vs.set n u) (n + 1) us = spliceV vs n (u :: us) := by
  induction n with
  | zero =>
    intro vs h
    cases vs with
    | nil => simp at h
    | cons v vs => simp [spliceV]
  | succ n ih =>
    intro vs h
    cases vs with
    | nil => simp at h
    | cons v vs =>
      simp only [List.set_cons_succ, spliceV]
      rw [ih vs (by simpa using h)]
end Go.Eng
