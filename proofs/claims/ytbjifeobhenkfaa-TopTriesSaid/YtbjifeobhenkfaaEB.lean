/- The engine: parts 2 3 4 5 6 7 7b. -/
import Derived.Test.YtbjifeobhenkfaaEA
import Derived.Test.YtbjifeobhenkfaaGlobs
import Derived.MapKept
import Derived.RangeFuncRecord
import Derived.OrdersIn
import Derived.TacticsIn
import Derived.Laws.StructEq
import Derived.Deep.AppendSrc
import Derived.Laws.MakeOwn
set_option linter.unusedVariables false
set_option linter.unusedSimpArgs false
section
namespace Go.Eng
open Go.RowKit (Below)


structure Keeps (B : Nat → Prop) (w w' : World) : Prop where
 os : w'.os = w.os
 tape : w'.tape = w.tape
 output : w'.output = w.output
 size : w.heap.size ≤ w'.heap.size
 block : ∀ k, B k → w'.heap[k]? = w.heap[k]?
theorem Keeps.refl (B : Nat → Prop) (w : World) : Keeps B w w := ⟨rfl, rfl, rfl, Nat.le_refl _, fun _ _ => rfl⟩
theorem Keeps.trans {B : Nat → Prop} {a b c : World} (h : Keeps B a b) (k : Keeps B b c) : Keeps B a c :=
 ⟨k.os.trans h.os, k.tape.trans h.tape, k.output.trans h.output, Nat.le_trans h.size k.size, fun i hi => (k.block i hi).trans (h.block i hi)⟩
theorem Keeps.mono {B B' : Nat → Prop} {w w' : World} (h : Keeps B w w') (hB : ∀ k, B' k → B k) : Keeps B' w w' := ⟨h.os, h.tape, h.output, h.size, fun k hk => h.block k (hB k hk)⟩
theorem Keeps.drew {B : Nat → Prop} {a w : World} (h : Keeps B a w) : Keeps B a w.drew := ⟨h.os, h.tape, h.output, h.size, h.block⟩
theorem Keeps.alloc {B : Nat → Prop} {a w : World} (h : Keeps B a w) (hB : ∀ b, B b → b < w.heap.size) (o : Obj) : Keeps B a (w.alloc o) :=
 h.trans ⟨rfl, rfl, rfl, by simp, fun k hk => Below.heap_alloc _ _ _ (hB k hk)⟩
theorem Keeps.below {n : Nat} {w w' : World} (h : Keeps (fun b => b < n) w w') : Below n w w' := ⟨h.os, h.tape, h.output, h.size, h.block⟩

def repE (M : Mem) (x : AV) (u : Value) : Prop := match x with
 | .coll c' => repC M DEP c' u
 | x => sc x u
theorem repE_mono {M M' : Mem} (h : M.le M') {x : AV} {u : Value} (hx : repE M x u) : repE M' x u := by
 cases x <;> first | exact hx | exact repC_mono h _ _ _ hx
def repX (M : Mem) (k : Kind) (x : k.Ty) (vs : List Value) : Prop := vs.length = k.esz ∧ ∀ (j : Nat) (y : AV), (k.enc x)[j]? = some y → ∃ u : Value, vs[j]? = some u ∧ repE M y u
theorem repX_mono {M M' : Mem} (h : M.le M') {k : Kind} {x : k.Ty} {vs : List Value} (hx : repX M k x vs) : repX M' k x vs :=
 ⟨hx.1, fun j y hy => let ⟨u, h1, h2⟩ := hx.2 j y hy; ⟨u, h1, repE_mono h h2⟩⟩
def repV (M : Mem) (k : Kind) (x : k.Ty) (v : Value) : Prop := (if k.isAgg then ∃ us, v = .agg us else ∀ us, v ≠ .agg us) ∧ repX M k x v.cells.toList
theorem repV_mono {M M' : Mem} (h : M.le M') {k : Kind} {x : k.Ty} {v : Value} (hx : repV M k x v) : repV M' k x v := ⟨hx.1, repX_mono h hx.2⟩
def elems (M : Mem) (c : Coll) (vs : List Value) : Prop := ∀ (i : Nat), i < c.len → ∀ (j : Nat) (x : AV), (c.get i)[j]? = some x → ∃ u : Value, vs[i * c.esz + j]? = some u ∧ repE M x u
theorem elems_mono {M M' : Mem} (h : M.le M') {c : Coll} {vs : List Value} (hx : elems M c vs) : elems M' c vs :=
 fun i hi j x hj => let ⟨u, h1, h2⟩ := hx i hi j x hj; ⟨u, h1, repE_mono h h2⟩
def repEs (M : Mem) (k v : Kind) : List (k.Ty × v.Ty) → List MapEntry → Prop
 | [], [] => True
 | x :: xs, e :: es => repV M k x.1 e.key ∧ repV M v x.2 e.val ∧ repEs M k v xs es
 | _, _ => False
theorem repEs_mono {M M' : Mem} (hM : M.le M') {k v : Kind} : ∀ (xs : List (k.Ty × v.Ty)) (es : List MapEntry), repEs M k v xs es → repEs M' k v xs es
 | [], [], _ => by simp [repEs]
 | x :: xs, e :: es, h => by simp only [repEs] at h ⊢; exact ⟨repV_mono hM h.1, repV_mono hM h.2.1, repEs_mono hM xs es h.2.2⟩
 | [], _ :: _, h => by simp [repEs] at h
 | _ :: _, [], h => by simp [repEs] at h

def inVs (own : Nat → Option Nat) (M : Mem) (w : World) (id r : Nat) : List (ByteArray × XVn) → List (ByteArray × XDv) → Prop
 | [], [] => True
 | e :: es, x :: xs => (e.1 = x.1 ∧ e.2.size = x.2.size ∧ e.2.zone = x.2.zone ∧ e.2.tag = x.2.tag ∧
   ∃ q ents clock, x.2.spot = some q ∧ q ≠ r ∧ own q = some id ∧ w.heap[q]? = some (.map ents clock) ∧ repEs M .str .bool e.2.nodes ents.toList ∧ MapKept.Stamped ents clock) ∧ inVs own M w id r es xs
 | _, _ => False
def xget (xs : List (ByteArray × XDv)) (k : ByteArray) : Option XDv := mget (k := .str) (v := .dv) xs k
def alOk (pl : Nat → Option RL) (xs : List (ByteArray × XDv)) : Option (Nat × ByteArray) → Prop
 | none => True
 | some (n, k) => ∀ x, xget xs k = some x → ∃ q, x.spot = some q ∧ pl n = some (.blk q)
theorem inVs.keep {own own' : Nat → Option Nat} {M M' : Mem} {w w' : World} {id id' r : Nat} (hM : M.le M') (hw : ∀ r, own r = some id → own' r = some id' ∧ w'.heap[r]? = w.heap[r]?) :
  ∀ {es : List (ByteArray × XVn)} {xs : List (ByteArray × XDv)}, inVs own M w id r es xs → inVs own' M' w' id' r es xs
 | [], [], _ => trivial
 | e :: es, x :: xs, h => by
  obtain ⟨⟨h1, h2, h3, h4, q, ents, clock, h5, h6, h7, h8, h9⟩, h⟩ := h
  exact ⟨⟨h1, h2, h3, h4, q, ents, clock, h5, h6, (hw q h7).1, (hw q h7).2.trans h8, repEs_mono hM _ _ h9.1, h9.2⟩, inVs.keep hM hw h⟩
 | [], _ :: _, h => h.elim
 | _ :: _, [], h => h.elim
def okVec (ρ : Loc) (M : Mem) (w : World) (id : Nat) (f : Bool) (c : Coll) (hv : Value) : Prop :=
 (hv = .slice none 0 0 ∧ c.len = 0) ∨ ∃ r cap vs t, hv = .slice (some ⟨r, 0, none⟩) c.len cap ∧ ρ.own r = some id ∧ w.heap[r]? = some (.cells ⟨vs⟩ t (0, 0)) ∧
   vs.length = cap * c.esz ∧ c.len ≤ cap ∧ cap ≤ maxLen ∧ elems M c vs ∧ (∀ off, (f = false ∨ c.len * c.esz ≤ off) → M r off = none) ∧ (f = true → ∀ off u, off < c.len * c.esz → vs[off]? = some u → M r off = some u)
def scL : List AV → List Value → Prop
 | [], [] => True
 | x :: xs, v :: vs => sc x v ∧ scL xs vs
 | _, _ => False
def okObj (ρ : Loc) (M : Mem) (w : World) (id : Nat) : AObj → Prop
 | .dead => True
 | .cells t cs => ∃ r vs, ρ id = some (.blk r) ∧ ρ.own r = some id ∧ w.heap[r]? = some (.cells ⟨vs⟩ t (0, 0)) ∧ repL ρ M noG cs vs ∧ ∀ off, M r off = none
 | .vec f c => ∃ hv, ρ id = some (.hdr hv) ∧ okVec ρ M w id f c hv
 | .map m => ∃ r ents clock, ρ id = some (.blk r) ∧ ρ.own r = some id ∧ w.heap[r]? = some (.map ents clock) ∧ repEs M m.k m.v m.es ents.toList ∧ MapKept.Stamped ents clock
 | .iter s pos => ∃ r, ρ id = some (.blk r) ∧ ρ.own r = some id ∧ w.heap[r]? = some (.stringIter s pos) ∧ ∀ off, M r off = none
 | .loop site t pd => ∃ r rec, ρ id = some (.blk r) ∧ ρ.own r = some id ∧ w.heap[r]? = some (.loop rec) ∧ Globs.site site = (rec.params, rec.assign, rec.body) ∧ rec.state = (if pd.isNone then .ready else .done) ∧ rec.pending = pd ∧ repL ρ M noG t rec.tmps.toList ∧ ∀ off, M r off = none
 | .var t p f c => ∃ r us hv, ρ id = some (.blk r) ∧ ρ.own r = some id ∧ w.heap[r]? = some (.cells ⟨us ++ [hv]⟩ t (0, 0)) ∧ (∀ off, M r off = none) ∧ scL p us ∧ okVec ρ M w id f c hv ∧ ∀ b n cap, hv = .slice (some ⟨b, 0, none⟩) n cap → b ≠ r

 | .vols es al => ∃ r ents clock xs, ρ id = some (.blk r) ∧ ρ.own r = some id ∧ w.heap[r]? = some (.map ents clock) ∧ repEs M .str .dv xs ents.toList ∧ MapKept.Stamped ents clock ∧ inVs ρ.own M w id r es xs ∧ (xs.map fun x => x.2.spot).Nodup ∧ alOk ρ.pl xs al

structure SimH (B : Nat → Prop) (w0 : World) (M0 : Mem) (h : List AObj) (w : World) (ρ : Loc) (M : Mem) : Prop where
 obj : ∀ id, okObj ρ M w id (hget h id)
 fresh : ∀ id, h.length ≤ id → ρ id = none
 own : ∀ r id, ρ.own r = some id → ¬ B r ∧ r < w.heap.size
 mem : ∀ b o v, M b o = some v → w.cell? ⟨b, o, none⟩ = some v
 old : ∀ b o, B b → M b o = M0 b o
 below : Keeps B w0 w
 size : ∀ b, B b → b < w.heap.size
 good : ∀ w', (∀ k, B k → w'.heap[k]? = w0.heap[k]?) → Globs.G w'

theorem okVec.keep {ρ ρ' : Loc} {M M' : Mem} {w w' : World} {id : Nat} {f : Bool} {c : Coll} {hv : Value} (h : okVec ρ M w id f c hv) (hM : M.le M')
  (hw : ∀ r, ρ.own r = some id → ρ'.own r = some id ∧ w'.heap[r]? = w.heap[r]? ∧ ∀ off, M r off = none → M' r off = none) : okVec ρ' M' w' id f c hv := by
 rcases h with h | ⟨r, cap, vs, t, e, h4, h5, h6, h7, h8, h9, h11, h12⟩
 · exact .inl h
 · obtain ⟨k1, k2, k3⟩ := hw r h4
   exact .inr ⟨r, cap, vs, t, e, k1, by rw [k2]; exact h5, h6, h7, h8, elems_mono hM h9, fun off ho => k3 off (h11 off ho), fun hf off u ho hu => hM _ _ _ (h12 hf off u ho hu)⟩
theorem okObj.keep {ρ ρ' : Loc} {M M' : Mem} {w w' : World} {id : Nat} {o : AObj} (h : okObj ρ M w id o) (hρ : ρ.le ρ') (hM : M.le M')
  (hw : ∀ r, ρ.own r = some id → ρ'.own r = some id ∧ w'.heap[r]? = w.heap[r]? ∧ ∀ off, M r off = none → M' r off = none) : okObj ρ' M' w' id o := by
 cases o with
 | dead => trivial
 | cells t cs =>
  obtain ⟨r, vs, h1, h2, h3, h4, h5⟩ := h
  obtain ⟨k1, k2, k3⟩ := hw r h2
  exact ⟨r, vs, hρ _ _ h1, k1, by rw [k2]; exact h3, repL_mono hρ hM (fun _ _ h => h) _ _ h4, fun off => k3 off (h5 off)⟩
 | vec f c => obtain ⟨hv, h1, h2⟩ := h; exact ⟨hv, hρ _ _ h1, h2.keep hM hw⟩
 | map m =>
  obtain ⟨r, ents, clock, h1, h2, h3, h4⟩ := h
  obtain ⟨k1, k2, k3⟩ := hw r h2
  exact ⟨r, ents, clock, hρ _ _ h1, k1, by rw [k2]; exact h3, repEs_mono hM _ _ h4.1, h4.2⟩
 | iter s pos =>
  obtain ⟨r, h1, h2, h3, h4⟩ := h
  obtain ⟨k1, k2, k3⟩ := hw r h2
  exact ⟨r, hρ _ _ h1, k1, by rw [k2]; exact h3, fun off => k3 off (h4 off)⟩
 | loop site t pd =>
  obtain ⟨r, rec, h1, h2, h3, q1, q2, q3, h4, h5⟩ := h
  obtain ⟨k1, k2, k3⟩ := hw r h2
  exact ⟨r, rec, hρ _ _ h1, k1, by rw [k2]; exact h3, q1, q2, q3, repL_mono hρ hM (fun _ _ h => h) _ _ h4, fun off => k3 off (h5 off)⟩
 | var t p f c =>
  obtain ⟨r, us, hv, h1, h2, h3, h4, hp, h5, h6⟩ := h
  obtain ⟨k1, k2, k3⟩ := hw r h2
  exact ⟨r, us, hv, hρ _ _ h1, k1, by rw [k2]; exact h3, fun off => k3 off (h4 off), hp, h5.keep hM hw, h6⟩
 | vols es al =>
  obtain ⟨r, ents, clock, xs, h1, h2, h3, h4, hst, h5, h6, h7⟩ := h
  obtain ⟨k1, k2, k3⟩ := hw r h2
  refine ⟨r, ents, clock, xs, hρ _ _ h1, k1, by rw [k2]; exact h3, repEs_mono hM _ _ h4, hst, h5.keep hM fun r hr => ⟨(hw r hr).1, (hw r hr).2.1⟩, h6, ?_⟩
  match al, h7 with
  | none, _ => trivial
  | some (n, k), h7 => exact fun x hx => let ⟨q, h8, h9⟩ := h7 x hx; ⟨q, h8, hρ _ _ h9⟩

theorem SimH.update {B : Nat → Prop} {w0 w w' : World} {M0 M M' : Mem} {h : List AObj} {ρ ρ' : Loc} (H : SimH B w0 M0 h w ρ M) (id : Nat) (o : AObj)
  (hρ : ∀ i, i ≠ id → ρ' i = ρ i) (hle : ρ.le ρ') (hM : M.le M') (hnew : okObj ρ' M' w' id o)
  (hw : ∀ i r, i ≠ id → hget h i ≠ .dead → ρ.own r = some i → ρ'.own r = some i ∧ w'.heap[r]? = w.heap[r]? ∧ ∀ off, M r off = none → M' r off = none)
  (hown : ∀ r i, ρ'.own r = some i → ¬ B r ∧ r < w'.heap.size)
  (hmem : ∀ b o v, M' b o = some v → w'.cell? ⟨b, o, none⟩ = some v) (hold : ∀ b o, B b → M' b o = M b o) (hb : Keeps B w w') : SimH B w0 M0 (hset h id o) w' ρ' M' where
 obj := fun i => by
  rw [hget_hset]
  by_cases e : id = i
  · subst e; rw [if_pos rfl]; exact hnew
  · rw [if_neg e]
    by_cases hd : hget h i = .dead
    · rw [hd]; trivial
    · exact (H.obj i).keep hle hM fun r hr => hw i r (Ne.symm e) hd hr
 fresh := fun i hi => by
  rw [length_hset] at hi
  rw [hρ i (by omega)]
  exact H.fresh i (by omega)
 own := hown
 mem := hmem
 old := fun b o hb' => (hold b o hb').trans (H.old b o hb')
 below := H.below.trans hb
 size := fun b h => Nat.lt_of_lt_of_le (H.size b h) hb.size
 good := H.good

theorem SimH.world {B : Nat → Prop} {w0 w w' : World} {M0 M M' : Mem} {h : List AObj} {ρ : Loc} (H : SimH B w0 M0 h w ρ M) (hM : M.le M')
  (hw : ∀ i r, hget h i ≠ .dead → ρ.own r = some i → w'.heap[r]? = w.heap[r]? ∧ ∀ off, M r off = none → M' r off = none)
  (hmem : ∀ b o v, M' b o = some v → w'.cell? ⟨b, o, none⟩ = some v) (hold : ∀ b o, B b → M' b o = M b o) (hb : Keeps B w w') : SimH B w0 M0 h w' ρ M' where
 obj := fun i => by
  by_cases hd : hget h i = .dead
  · rw [hd]; trivial
  · exact (H.obj i).keep (Loc.le_refl _) hM fun r hr => ⟨hr, hw i r hd hr⟩
 fresh := H.fresh
 own := fun r i hr => ⟨(H.own r i hr).1, Nat.lt_of_lt_of_le (H.own r i hr).2 hb.size⟩
 mem := hmem
 old := fun b o hb' => (hold b o hb').trans (H.old b o hb')
 below := H.below.trans hb
 size := fun b h => Nat.lt_of_lt_of_le (H.size b h) hb.size
 good := H.good
theorem SimH.kill {B : Nat → Prop} {w0 w : World} {M0 M : Mem} {h : List AObj} {ρ : Loc} (H : SimH B w0 M0 h w ρ M) (id : Nat) : SimH B w0 M0 (hset h id .dead) w ρ M :=
 H.update id .dead (fun _ _ => rfl) (Loc.le_refl _) (Mem.le_refl _) trivial (fun _ _ _ _ hr => ⟨hr, rfl, fun _ h => h⟩) (fun r i hr => H.own r i hr) H.mem (fun _ _ _ => rfl) (Keeps.refl _ _)

theorem SimH.drew {B : Nat → Prop} {w0 w : World} {M0 M : Mem} {h : List AObj} {ρ : Loc} (H : SimH B w0 M0 h w ρ M) : SimH B w0 M0 h w.drew ρ M :=
 H.world (Mem.le_refl _) (fun _ _ _ _ => ⟨rfl, fun _ h => h⟩) (fun b o v hv => by rw [World.cell?_drew]; exact H.mem b o v hv) (fun _ _ _ => rfl) ((Keeps.refl _ _).drew)

def Loc.put (ρ : Loc) (id : Nat) (x : RL) (r : Nat) : Loc := ⟨fun i => if i = id then some x else ρ i, fun b => if b = r then some id else ρ.own b⟩
theorem Loc.le_put {ρ : Loc} {id r : Nat} {x : RL} (h : ρ id = none) : ρ.le (ρ.put id x r) := fun i y hx => by
 simp only [Loc.put]
 split
 · rename_i e; subst e; rw [h] at hx; cases hx
 · exact hx
def Loc.put0 (ρ : Loc) (id : Nat) (x : RL) : Loc := ⟨fun i => if i = id then some x else ρ i, ρ.own⟩
theorem Loc.le_put0 {ρ : Loc} {id : Nat} {x : RL} (h : ρ id = none) : ρ.le (ρ.put0 id x) := fun i y hx => by
 simp only [Loc.put0]
 split
 · rename_i e; subst e; rw [h] at hx; cases hx
 · exact hx
theorem Mem.none_new {B : Nat → Prop} {w0 w : World} {M0 M : Mem} {h : List AObj} {ρ : Loc} (H : SimH B w0 M0 h w ρ M) {r : Nat} (hr : w.heap.size ≤ r) (off : Nat) : M r off = none := by
 cases hm : M r off with
 | none => rfl
 | some v =>
  have := World.block_lt_of_cell? w _ (H.mem r off v hm)
  simp at this
  omega

theorem SimH.allocO {B : Nat → Prop} {w0 w : World} {M0 M : Mem} {h : List AObj} {ρ : Loc} (H : SimH B w0 M0 h w ρ M) (id : Nat) (hid : ρ id = none) (o : AObj) (x : RL) (b : Obj) (hnew : okObj (ρ.put id x w.heap.size) M (w.alloc b) id o) :
  SimH B w0 M0 (hset h id o) (w.alloc b) (ρ.put id x w.heap.size) M := by
 have hle := Loc.le_put (r := w.heap.size) (x := x) hid
 refine H.update id _ (fun i hi => by simp [Loc.put, hi]) hle (Mem.le_refl _) hnew ?_ ?_ ?_ (fun _ _ _ => rfl) ((Keeps.refl _ _).alloc H.size _)
 · intro i r _ hd hr
   have hlt := (H.own r i hr).2
   exact ⟨by simp only [Loc.put]; rw [if_neg (by omega)]; exact hr, Below.heap_alloc _ _ _ hlt, fun _ h => h⟩
 · intro r i hr
   simp only [Loc.put] at hr
   split at hr
   · rename_i e; subst e; exact ⟨fun hB => Nat.lt_irrefl _ (H.size _ hB), by simp⟩
   · exact ⟨(H.own r i hr).1, by have := (H.own r i hr).2; simp; omega⟩
 · intro b o v hv
   have := H.mem b o v hv
   rw [World.cell?_alloc_lt _ _ _ (World.block_lt_of_cell? w _ this)]
   exact this
theorem SimH.take {B : Nat → Prop} {w0 w w' : World} {M0 M M' : Mem} {h : List AObj} {ρ : Loc} (H : SimH B w0 M0 h w ρ M) (id : Nat) (hid : ρ id = none) (o : AObj) (x : RL) (r : Nat)
  (hfree : ∀ i, ρ.own r = some i → hget h i = .dead) (hB : ¬ B r) (hlt : r < w'.heap.size) (hw : ∀ k, k ≠ r → k < w.heap.size → w'.heap[k]? = w.heap[k]?) (hk : Keeps B w w') (hM : M.le M')
  (hMr : ∀ b o, b ≠ r → M' b o = M b o) (hmr : ∀ o v, M' r o = some v → w'.cell? ⟨r, o, none⟩ = some v) (hnew : okObj (ρ.put id x r) M' w' id o) : SimH B w0 M0 (hset h id o) w' (ρ.put id x r) M' := by
 refine H.update id _ (fun i hi => by simp [Loc.put, hi]) (Loc.le_put hid) hM hnew ?_ ?_ ?_ ?_ hk
 · intro i r' _ hd hr
   have hne : r' ≠ r := fun e => hd (hfree i (e ▸ hr))
   exact ⟨by simp only [Loc.put]; rw [if_neg hne]; exact hr, hw r' hne (H.own r' i hr).2, fun off ho => by rw [hMr r' off hne]; exact ho⟩
 · intro r' i hr
   simp only [Loc.put] at hr
   split at hr
   · rename_i e; subst e; exact ⟨hB, hlt⟩
   · exact ⟨(H.own r' i hr).1, Nat.lt_of_lt_of_le (H.own r' i hr).2 hk.size⟩
 · intro b o v hv
   by_cases e : b = r
   · subst e; exact hmr o v hv
   · rw [hMr b o e] at hv
     have hc := H.mem b o v hv
     have hb := World.block_lt_of_cell? w _ hc
     rw [← hc]
     unfold World.cell?
     rw [hw b e hb]
 · intro b o hb
   exact hMr b o fun e => hB (e ▸ hb)
theorem SimH.alloc {B : Nat → Prop} {w0 w : World} {M0 M : Mem} {h : List AObj} {ρ : Loc} (H : SimH B w0 M0 h w ρ M) (id : Nat) (hid : ρ id = none) (t : TypeId) (cs : List AV) (vs : List Value)
  (hr : repL ρ M noG cs vs) : SimH B w0 M0 (hset h id (.cells t cs)) (w.alloc (.cells ⟨vs⟩ t)) (ρ.put id (.blk w.heap.size) w.heap.size) M := by
 have hle := Loc.le_put (r := w.heap.size) (x := .blk w.heap.size) hid
 refine H.allocO id hid _ _ _ ?_
 exact ⟨w.heap.size, vs, by simp [Loc.put], by simp [Loc.put], (by show (w.heap.push _)[w.heap.size]? = _; simp), repL_mono hle (Mem.le_refl _) (fun _ _ h => h) _ _ hr, fun off => Mem.none_new H (Nat.le_refl _) off⟩

theorem repL_length {ρ : Loc} {M : Mem} {G : Nat → Bool → Prop} : ∀ {xs : List AV} {vs : List Value}, repL ρ M G xs vs → xs.length = vs.length
 | [], [], _ => rfl
 | _ :: xs, _ :: vs, h => by simp only [repL] at h; simp [repL_length h.2]
 | [], _ :: _, h => by simp [repL] at h
 | _ :: _, [], h => by simp [repL] at h
theorem repL_get {ρ : Loc} {M : Mem} {G : Nat → Bool → Prop} : ∀ {xs : List AV} {vs : List Value} (_ : repL ρ M G xs vs) (i : Nat) (x : AV), xs[i]? = some x → ∃ v, vs[i]? = some v ∧ rep ρ M G x v
 | [], [], _, i, x, hx => by simp at hx
 | y :: xs, v :: vs, h, 0, x, hx => by simp only [repL] at h; simp at hx; subst hx; exact ⟨v, rfl, h.1⟩
 | y :: xs, v :: vs, h, i + 1, x, hx => by simp only [repL] at h; simp at hx; simpa using repL_get h.2 i x hx
 | [], _ :: _, h, _, _, _ => by simp [repL] at h
 | _ :: _, [], h, _, _, _ => by simp [repL] at h
theorem repL_drop {ρ : Loc} {M : Mem} {G : Nat → Bool → Prop} (n : Nat) : ∀ {xs : List AV} {vs : List Value}, repL ρ M G xs vs → repL ρ M G (xs.drop n) (vs.drop n) := by
 induction n with
 | zero => intro xs vs h; simpa using h
 | succ n ih =>
  intro xs vs h
  cases xs <;> cases vs <;> simp only [repL] at h <;> simp [repL]
  exact ih h.2
theorem repL_take {ρ : Loc} {M : Mem} {G : Nat → Bool → Prop} (n : Nat) : ∀ {xs : List AV} {vs : List Value}, repL ρ M G xs vs → repL ρ M G (xs.take n) (vs.take n) := by
 induction n with
 | zero => intro xs vs h; simp [repL]
 | succ n ih =>
  intro xs vs h
  cases xs <;> cases vs <;> simp only [repL] at h <;> simp [repL]
  exact ⟨h.1, ih h.2⟩
theorem repL_append {ρ : Loc} {M : Mem} {G : Nat → Bool → Prop} : ∀ {xs : List AV} {vs : List Value} {ys : List AV} {us : List Value}, repL ρ M G xs vs → repL ρ M G ys us → repL ρ M G (xs ++ ys) (vs ++ us)
 | [], [], _, _, _, h => by simpa using h
 | _ :: _, _ :: _, _, _, h, k => by simp only [repL] at h; simp only [List.cons_append, repL]; exact ⟨h.1, repL_append h.2 k⟩
 | [], _ :: _, _, _, h, _ => by simp [repL] at h
 | _ :: _, [], _, _, h, _ => by simp [repL] at h
def spliceV (vs : List Value) : Nat → List Value → List Value
 | 0, us => us ++ vs.drop us.length
 | n + 1, us => match vs with
  | [] => []
  | v :: vs => v :: spliceV vs n us
theorem repL_splice {ρ : Loc} {M : Mem} {G : Nat → Bool → Prop} (n : Nat) : ∀ {xs : List AV} {vs : List Value} {ys : List AV} {us : List Value}, repL ρ M G xs vs → repL ρ M G ys us → repL ρ M G (splice xs n ys) (spliceV vs n us) := by
 induction n with
 | zero =>
  intro xs vs ys us h k
  simp only [splice, spliceV]
  rw [repL_length k]
  exact repL_append k (repL_drop _ h)
 | succ n ih =>
  intro xs vs ys us h k
  cases xs <;> cases vs <;> simp only [repL] at h <;> simp only [splice, spliceV, repL]
  exact ⟨h.1, ih h.2 k⟩
theorem spliceV_length (n : Nat) : ∀ (vs us : List Value), n + us.length ≤ vs.length → (spliceV vs n us).length = vs.length := by
 induction n with
 | zero => intro vs us h; simp [spliceV]; omega
 | succ n ih =>
  intro vs us h
  cases vs with
  | nil => simp at h
  | cons v vs => simp only [spliceV, List.length_cons]; rw [ih vs us (by simp at h; omega)]
theorem splice_nil (n : Nat) : ∀ (vs : List Value), spliceV vs n [] = vs := by
 induction n with
 | zero => intro vs; simp [spliceV]
 | succ n ih => intro vs; cases vs <;> simp [spliceV, ih]
theorem splice_set (n : Nat) (u : Value) (us : List Value) : ∀ (vs : List Value), n < vs.length → spliceV (vs.set n u) (n + 1) us = spliceV vs n (u :: us) := by
 induction n with
 | zero =>
  intro vs h
  cases vs with
  | nil => simp at h
  | cons v vs => simp [spliceV]
 | succ n ih =>
  intro vs h
  cases vs with
  | nil => simp at h
  | cons v vs =>
   simp only [List.set_cons_succ, spliceV]
   rw [ih vs (by simpa using h)]
end Go.Eng
end
section
namespace Go.Eng
open Go.RowKit (Below)

theorem rep_av1 (ρ : Loc) (M : Mem) (G : Nat → Bool → Prop) (v : Value) : rep ρ M G (av1 v) v := by
 unfold av1
 split <;> simp [rep]
theorem repL_av1 (ρ : Loc) (M : Mem) (G : Nat → Bool → Prop) : ∀ (l : List Value), repL ρ M G (l.map av1) l
 | [] => by simp [repL]
 | v :: l => by simp only [List.map_cons, repL]; exact ⟨rep_av1 ρ M G v, repL_av1 ρ M G l⟩
theorem rep_avOf (ρ : Loc) (M : Mem) (G : Nat → Bool → Prop) (v : Value) : rep ρ M G (avOf v) v := by
 unfold avOf
 split
 · rename_i cs
   simp only [rep]
   exact ⟨cs.toList, rfl, repL_av1 ρ M G _⟩
 · exact rep_av1 ρ M G v

section
variable {P : Program}
theorem run_isAgg (t : TypeId) (w : World) (h : (P.underlying t).isSome = true) : (isAgg t).run P w = .ok (tagg P t) w := by
 obtain ⟨d, hd⟩ := Option.isSome_iff_exists.1 h
 simp only [isAgg, Sem.run_bind, run_underlying hd, Result.andThen_ok]
 unfold tagg
 rw [hd]
 cases d <;> simp
theorem run_typeInfo {t : TypeId} {i : TypeInfo} (h : P.info? t = some i) (w : World) : (typeInfo t).run P w = .ok i w := by simp [typeInfo, h]
theorem run_sizeOf (t : TypeId) (w : World) (h : (P.info? t).isSome = true) : (sizeOf t).run P w = .ok (tsize P t) w := by
 obtain ⟨i, hi⟩ := Option.isSome_iff_exists.1 h
 simp [sizeOf, run_typeInfo hi, tsize, hi]
theorem run_zeroValue {t : TypeId} {i : TypeInfo} {z : Value} (h : P.info? t = some i) (hz : i.zero = some z) (w : World) : (zeroValue t).run P w = .ok z w := by simp [zeroValue, run_typeInfo h, hz]

theorem run_loadCellsFrom {w : World} {b o : Nat} : ∀ (vs : List Value) (i : Nat) (acc : Array Value), (∀ j v, vs[j]? = some v → w.cell? ⟨b, o + i + j, none⟩ = some v) →
  (loadCellsFrom ⟨b, o, none⟩ i vs.length acc).run P w = .ok (acc ++ vs.toArray) w
 | [], i, acc, _ => by simp [loadCellsFrom]
 | v :: vs, i, acc, h => by
  have h0 : w.cell? ⟨b, o + i, none⟩ = some v := by have := h 0 v rfl; simpa using this
  have ha : (⟨b, o, none⟩ : Addr).add i = ⟨b, o + i, none⟩ := Addr.add_lit b o i
  simp only [List.length_cons, loadCellsFrom, Sem.run_bind, ha, run_load, h0, Result.andThen_ok]
  rw [run_loadCellsFrom vs (i + 1) (acc.push v) (fun j u hj => by have := h (j + 1) u (by simpa using hj); rw [← this]; congr 2; omega)]
  simp
theorem run_loadCells {w : World} {b o n : Nat} (vs : List Value) (hn : vs.length = n) (h : ∀ j v, vs[j]? = some v → w.cell? ⟨b, o + j, none⟩ = some v) :
  (loadCells ⟨b, o, none⟩ n).run P w = .ok ⟨vs⟩ w := by
 subst hn
 unfold loadCells
 rw [run_loadCellsFrom vs 0 #[] (fun j v hj => by simpa using h j v hj)]
 simp
theorem run_loadVar_of {w : World} {t : TypeId} {b off : Nat} {cs : List AV} {x : AV} {R : AV → Value → Prop} (hx : loadFrom P t cs off = some x)
  (o : Nat) (hc : ∀ j y, cs[j]? = some y → ∃ u, w.cell? ⟨b, o + j, none⟩ = some u ∧ R y u) (hagg : ∀ (ys : List AV) (us : List Value), ys.length = us.length → (∀ (j : Nat) (y : AV) (u : Value), ys[j]? = some y → us[j]? = some u → R y u) → R (.agg ys) (.agg ⟨us⟩)) :
  ∃ v, (loadVar t ⟨b, o + off, none⟩).run P w = .ok v w ∧ R x v := by
 unfold loadFrom at hx
 split at hx
 case isFalse => cases hx
 rename_i hui
 obtain ⟨hu, hi⟩ : (P.underlying t).isSome = true ∧ (P.info? t).isSome = true := by simpa using hui
 by_cases hg : tagg P t = true
 · rw [if_pos hg] at hx
   split at hx
   · rename_i hle
     injection hx with hx
     subst hx
     obtain ⟨us, hl, hus⟩ : ∃ us : List Value, us.length = tsize P t ∧ ∀ j, j < tsize P t → ∃ y u, cs[off + j]? = some y ∧ us[j]? = some u ∧ w.cell? ⟨b, o + off + j, none⟩ = some u ∧ R y u := by
      have key : ∀ n, n ≤ tsize P t → ∃ us : List Value, us.length = n ∧ ∀ j, j < n → ∃ y u, cs[off + j]? = some y ∧ us[j]? = some u ∧ w.cell? ⟨b, o + off + j, none⟩ = some u ∧ R y u := by
       intro n
       induction n with
       | zero => exact fun _ => ⟨[], rfl, fun j hj => absurd hj (by omega)⟩
       | succ n ih =>
        intro hn
        obtain ⟨us, hl, hus⟩ := ih (by omega)
        have hlt : off + n < cs.length := by omega
        obtain ⟨u, hu1, hu2⟩ := hc (off + n) cs[off + n] (List.getElem?_eq_getElem hlt)
        refine ⟨us ++ [u], by simp [hl], fun j hj => ?_⟩
        rcases Nat.lt_or_ge j n with h | h
        · obtain ⟨y, u', h1, h2, h3, h4⟩ := hus j h
          exact ⟨y, u', h1, by rw [List.getElem?_append_left (by omega)]; exact h2, h3, h4⟩
        · obtain rfl : j = n := by omega
          exact ⟨cs[off + j], u, List.getElem?_eq_getElem hlt, by rw [List.getElem?_append_right (by omega)]; simp [hl], by rw [Nat.add_assoc]; exact hu1, hu2⟩
      exact key _ (Nat.le_refl _)
     refine ⟨.agg ⟨us⟩, ?_, hagg _ _ (by simp [List.length_take, List.length_drop, hl]; omega) (fun j y u h1 h2 => ?_)⟩
     · simp only [loadVar, Sem.run_bind, run_isAgg t w hu, Result.andThen_ok, hg, if_true, run_sizeOf t w hi]
       rw [run_loadCells us hl (fun j v hj => by
        obtain ⟨y, u, _, h2, h3, _⟩ := hus j (by have := (List.getElem?_eq_some_iff.1 hj).1; omega)
        rw [hj] at h2; injection h2 with h2; subst h2; exact h3)]
       rfl
     · have hj : j < tsize P t := by have := (List.getElem?_eq_some_iff.1 h2).1; omega
       obtain ⟨y', u', e1, e2, _, e4⟩ := hus j hj
       rw [List.getElem?_take_of_lt hj, List.getElem?_drop, e1] at h1
       injection h1 with h1
       rw [h2] at e2
       injection e2 with e2
       subst h1; subst e2
       exact e4
   · cases hx
 · rw [if_neg hg] at hx
   obtain ⟨u, h1, h2⟩ := hc off x hx
   refine ⟨u, ?_, h2⟩
   have hg' : tagg P t = false := by simpa using hg
   simp only [loadVar, Sem.run_bind, run_isAgg t w hu, Result.andThen_ok, hg', Bool.false_eq_true, if_false, run_load, h1]

def putCells (w : World) (r : Nat) (vs : List Value) (t : TypeId) : World := { w with heap := w.heap.setIfInBounds r (.cells ⟨vs⟩ t (0, 0)) }
theorem putCells_at {w : World} {r : Nat} {vs : List Value} {t : TypeId} (h : r < w.heap.size) : (putCells w r vs t).heap[r]? = some (.cells ⟨vs⟩ t (0, 0)) := by simp [putCells, h]
theorem putCells_ne {w : World} {r k : Nat} {vs : List Value} {t : TypeId} (h : k ≠ r) : (putCells w r vs t).heap[k]? = w.heap[k]? := by simp [putCells, Array.getElem?_setIfInBounds_ne (Ne.symm h)]
theorem putCells_size {w : World} {r : Nat} {vs : List Value} {t : TypeId} : (putCells w r vs t).heap.size = w.heap.size := by simp [putCells]
theorem putCells_below {B : Nat → Prop} {w : World} {r : Nat} {vs : List Value} {t : TypeId} (h : ¬ B r) : Keeps B w (putCells w r vs t) :=
 ⟨rfl, rfl, rfl, by rw [putCells_size]; exact Nat.le_refl _, fun k hk => putCells_ne (fun e => h (e ▸ hk))⟩
theorem setCell_putCells {w : World} {r off : Nat} {vs : List Value} {t : TypeId} (h : w.heap[r]? = some (.cells ⟨vs⟩ t (0, 0))) (u : Value) :
  w.setCell ⟨r, off, none⟩ u = putCells w r (vs.set off u) t := by
 unfold World.setCell putCells
 congr 1
 apply Array.ext_getElem?
 intro k
 rw [Array.getElem?_modify, Array.getElem?_setIfInBounds]
 by_cases e : r = k
 · subst e
   have hlt := (Array.getElem?_eq_some_iff.1 h).1
   rw [if_pos rfl, if_pos rfl, if_pos hlt, h]
   simp
 · simp [e]
theorem putCells_same {w : World} {r : Nat} {vs : List Value} {t : TypeId} (h : w.heap[r]? = some (.cells ⟨vs⟩ t (0, 0))) : putCells w r vs t = w := by
 unfold putCells
 have : w.heap.setIfInBounds r (.cells ⟨vs⟩ t (0, 0)) = w.heap := by
  apply Array.ext_getElem?
  intro k
  rw [Array.getElem?_setIfInBounds]
  by_cases e : r = k
  · subst e
    have hlt := (Array.getElem?_eq_some_iff.1 h).1
    rw [if_pos rfl, if_pos hlt, h]
  · simp [e]
 rw [this]
theorem putCells_twice {w : World} {r : Nat} {vs us : List Value} {t : TypeId} : putCells (putCells w r vs t) r us t = putCells w r us t := by
 unfold putCells
 congr 1
 apply Array.ext_getElem?
 intro k
 simp only [Array.getElem?_setIfInBounds, Array.size_setIfInBounds]
 by_cases e : r = k <;> simp [e]
theorem cell_of_block {w : World} {r off : Nat} {vs : List Value} {t : TypeId} (h : w.heap[r]? = some (.cells ⟨vs⟩ t (0, 0))) : w.cell? ⟨r, off, none⟩ = vs[off]? := by
 unfold World.cell?
 simp [h]
theorem run_storeCells {r : Nat} {t : TypeId} {o : Nat} : ∀ (us : List Value) (vs : List Value) (i : Nat) (w : World), w.heap[r]? = some (.cells ⟨vs⟩ t (0, 0)) → o + i + us.length ≤ vs.length → (∀ u ∈ us, u.oneCell' = true) →
  (storeCells ⟨r, o, none⟩ us i).run P w = .ok () (putCells w r (spliceV vs (o + i) us) t)
 | [], vs, i, w, h, _, _ => by
  simp only [storeCells, Sem.run_pure]
  rw [splice_nil, putCells_same h]
 | u :: us, vs, i, w, h, hl, h1 => by
  have ha : (⟨r, o, none⟩ : Addr).add i = ⟨r, o + i, none⟩ := Addr.add_lit r o i
  have hlt : o + i < vs.length := by simp at hl; omega
  have hc : w.cell? ⟨r, o + i, none⟩ = some vs[o + i] := by rw [cell_of_block h]; exact List.getElem?_eq_getElem hlt
  have hf : w.frozen? ⟨r, o + i, none⟩ = false := by unfold World.frozen?; simp [h]
  have hr := (Array.getElem?_eq_some_iff.1 h).1
  simp only [storeCells, Sem.run_bind, ha]
  rw [run_store P w _ u .plain (h1 u (by simp))]
  simp only [hc, hf, Bool.false_eq_true, if_false, Result.andThen_ok]
  rw [setCell_putCells h, run_storeCells us (vs.set (o + i) u) (i + 1) _ (putCells_at hr) (by simp at hl ⊢; omega) (fun x hx => h1 x (by simp [hx])), putCells_twice]
  rw [show o + (i + 1) = (o + i) + 1 from by omega, splice_set _ _ _ _ hlt]
end
end Go.Eng
end
section
namespace Go.Eng
open Go.RowKit (Below)

def Loc.only (ρ ρ' : Loc) (effs : Eff) : Prop := ρ.le ρ' ∧ ∀ id, (∀ e ∈ effs, e.1 ≠ id) → ρ' id = ρ id
theorem Loc.only_refl (ρ : Loc) (effs : Eff) : ρ.only ρ effs := ⟨Loc.le_refl _, fun _ _ => rfl⟩
theorem Loc.only_put {ρ : Loc} {id : Nat} {x : RL} {r : Nat} (h : ρ id = none) (o : AObj) (effs : Eff) (he : (id, o) ∈ effs) : ρ.only (ρ.put id x r) effs := ⟨Loc.le_put h, fun i hi => by
 have := hi (id, o) he
 exact if_neg fun e => this e.symm⟩
theorem Loc.only_put0 {ρ : Loc} {id : Nat} {x : RL} (h : ρ id = none) (o : AObj) (effs : Eff) (he : (id, o) ∈ effs) : ρ.only (ρ.put0 id x) effs := ⟨Loc.le_put0 h, fun i hi => by
 have := hi (id, o) he
 exact if_neg fun e => this e.symm⟩
theorem Loc.only_more {ρ ρ' : Loc} {effs effs' : Eff} (h : ρ.only ρ' effs) (hs : ∀ e ∈ effs, e ∈ effs') : ρ.only ρ' effs' := ⟨h.1, fun i hi => h.2 i fun e he => hi e (hs e he)⟩
theorem okVec.repC {ρ : Loc} {M : Mem} {w : World} {id : Nat} {c : Coll} {hv : Value} (h : okVec ρ M w id true c hv) : repC M (DEP + 1) c hv := by
 rcases h with ⟨rfl, h0⟩ | ⟨r, cap, vs, t, rfl, _, _, h6, h7, _, h9, _, h12⟩
 · exact ⟨none, 0, by rw [h0], by omega, fun h => by omega⟩
 · refine ⟨some ⟨r, 0, none⟩, cap, rfl, h7, fun _ => ⟨r, 0, rfl, fun i hi j x hx => ?_⟩⟩
   obtain ⟨u, hu, hr⟩ := h9 i hi j x hx
   have hj : j < c.esz := by rw [← c.get_length i]; exact (List.getElem?_eq_some_iff.1 hx).1
   have hlt : i * c.esz + j < c.len * c.esz := by
    have : (i + 1) * c.esz ≤ c.len * c.esz := Nat.mul_le_mul_right _ hi
    rw [Nat.add_mul] at this; omega
   exact ⟨u, by rw [Nat.zero_add]; exact h12 rfl _ u hlt hu, hr⟩
def KSound (P : Program) (f : FuncId) (args : List AV) (hr : List AObj) (nid : Nat) (x : AV) (effs : Eff) : Prop :=
 ∀ (B : Nat → Prop) (w0 : World) (M0 : Mem) (h : List AObj) (w : World) (ρ : Loc) (M : Mem) (vs : List Value), SimH B w0 M0 h w ρ M → (∀ id, hget hr id ≠ .dead → hget h id = hget hr id) →
  (∀ p ∈ effs, nid ≤ p.1 → ρ p.1 = none) → repL ρ M noG args vs →
  Calls P f ⟨vs⟩ w fun e w' => ∃ v ρ' M', e = .returned v ∧ ρ.only ρ' effs ∧ M.le M' ∧ SimH B w0 M0 (applyEff h effs) w' ρ' M' ∧ rep ρ' M' noG x v
def KPSound (P : Program) (f : FuncId) (args : List AV) (b : Bool) (pv : Value) : Prop :=
 ∀ (B : Nat → Prop) (w0 : World) (M0 : Mem) (h : List AObj) (w : World) (ρ : Loc) (M : Mem) (vs : List Value), SimH B w0 M0 h w ρ M → repL ρ M noG args vs →
  Calls P f ⟨vs⟩ w fun e w' => (e = if b then .returned (.tuple #[]) else .panicked [{ v := pv, recovered := false }]) ∧ ∃ M', M.le M' ∧ SimH B w0 M0 h w' ρ M'
def YSound (P : Program) (args : List AV) (hr : List AObj) (nid : Nat) (x : AV) (effs : Eff) : Prop :=
 ∀ (B : Nat → Prop) (w0 : World) (M0 : Mem) (h : List AObj) (w : World) (ρ : Loc) (M : Mem) (l : Nat) (vs : List Value), SimH B w0 M0 h w ρ M → (∀ id, hget hr id ≠ .dead → hget h id = hget hr id) →
  (∀ p ∈ effs, nid ≤ p.1 → ρ p.1 = none) → repL ρ M noG args (.func (.yield l) #[] #[] :: vs) →
  ∃ fn tmps asg body, (Instr.yield l ⟨vs⟩).run P w = .ok (.round l fn tmps asg body) w ∧
   RoundIn Fence.wide 0 P l fn tmps asg body w fun e w' => ∃ v ρ' M', e = .returned v ∧ ρ.only ρ' effs ∧ M.le M' ∧ SimH B w0 M0 (applyEff h effs) w' ρ' M' ∧ rep ρ' M' noG x v
def YBOk (P : Program) (args : List AV) (hr : List AObj) (nid : Nat) : YB → Prop
 | .one (x, e, n) => (∀ p ∈ n, p) → YSound P args hr nid x e
 | .two b (x1, e1, n1) (x2, e2, n2) => (b = true → (∀ p ∈ n1, p) → YSound P args hr nid x1 e1) ∧ (b = false → (∀ p ∈ n2, p) → YSound P args hr nid x2 e2)
structure KOk (E : Env) : Prop where
 yOk : ∀ args h nid r, E.Y args h nid = some r → YBOk E.P args h nid r
 pEnters : ∀ f args r, E.KP f args = some r → ∀ (vs : Array Value) (w : World), (callFunc f vs).run E.P w = .ok (.enter f vs) w
 pSound : ∀ f args b pv, E.KP f args = some (b, pv) → KPSound E.P f args b pv
 bEnters : ∀ f args h nid r, E.KB f args h nid = some r → ∀ (vs : Array Value) (w : World), (callFunc f vs).run E.P w = .ok (.enter f vs) w
 bSound : ∀ f args h nid b x1 e1 n1 x2 e2 n2, E.KB f args h nid = some (b, (x1, e1, n1), (x2, e2, n2)) → (b = true → (∀ p ∈ n1, p) → KSound E.P f args h nid x1 e1) ∧ (b = false → (∀ p ∈ n2, p) → KSound E.P f args h nid x2 e2)
 enters : ∀ f args h nid r, E.K f args h nid = some r → ∀ (vs : Array Value) (w : World), (callFunc f vs).run E.P w = .ok (.enter f vs) w
 sound : ∀ f args h nid x effs need, E.K f args h nid = some (x, effs, need) → (∀ p ∈ need, p) → KSound E.P f args h nid x effs

section
variable {E : Env} {B : Nat → Prop} {w0 w : World} {M0 M : Mem} {h hr : List AObj} {ρ : Loc} {t : List AV} {a : Act}

theorem rep_opd (ht : ∀ i, rep ρ M noG (t.getD i .unk) (a.eval (.tmp i))) (x : Operand) : rep ρ M noG (opd t x) (a.eval x) := by
 cases x with
 | tmp i => exact ht i
 | const v => exact rep_avOf ρ M noG v
 | global g => simp [opd, rep]
 | func f => simp only [opd, rep, Act.eval]; exact ⟨[], rfl, by simp [repL]⟩
theorem repL_opd (ht : ∀ i, rep ρ M noG (t.getD i .unk) (a.eval (.tmp i))) : ∀ (xs : List Operand), repL ρ M noG (xs.map (opd t)) (xs.map a.eval)
 | [] => by simp [repL]
 | x :: xs => by simp only [List.map_cons, repL]; exact ⟨rep_opd ht x, repL_opd ht xs⟩

theorem repC_vec (H : SimH B w0 M0 h w ρ M) (hle : ∀ id, hget hr id ≠ .dead → hget h id = hget hr id) {x : AV} {v : Value} (hv : rep ρ M noG x v) : rep ρ M noG (coerce hr x) v := by
 unfold coerce
 split
 · rename_i id
   split
   · rename_i c hc
     have := H.obj id
     rw [hle id (by rw [hc]; simp), hc] at this
     obtain ⟨hv', h1, h2⟩ := this
     simp only [rep] at hv ⊢
     have hv := hv.2
     rw [h1] at hv
     injection hv with hv
     injection hv with hv
     subst hv
     exact h2.repC
   · exact hv
 · exact hv
theorem repL_coerce (H : SimH B w0 M0 h w ρ M) (hle : ∀ id, hget hr id ≠ .dead → hget h id = hget hr id) : ∀ {xs : List AV} {vs : List Value}, repL ρ M noG xs vs → repL ρ M noG (xs.map (coerce hr)) vs
 | [], [], _ => by simp [repL]
 | x :: xs, v :: vs, h => by simp only [repL] at h; simp only [List.map_cons, repL]; exact ⟨repC_vec H hle h.1, repL_coerce H hle h.2⟩
 | [], _ :: _, h => by simp [repL] at h
 | _ :: _, [], h => by simp [repL] at h

theorem one_cells {x : AV} {v : Value} (hx : x.one = true) (hv : rep ρ M noG x v) : v.oneCell' = true ∧ v.cells = #[v] ∧ x.cells = [x] := by
 cases x <;> simp [AV.one] at hx <;> simp only [rep] at hv
 case mapq => rcases hv with ⟨_, rfl⟩ | ⟨_, r, _, rfl⟩ <;> exact ⟨rfl, rfl, rfl⟩
 all_goals first
  | (subst hv; exact ⟨rfl, rfl, rfl⟩)
  | (obtain ⟨r, _, rfl⟩ := hv; exact ⟨rfl, rfl, rfl⟩)
  | (obtain ⟨_, _, b, o, rfl, _⟩ := hv; exact ⟨rfl, rfl, rfl⟩)
  | (obtain ⟨_, _, _, _, _, _, rfl⟩ := hv; exact ⟨rfl, rfl, rfl⟩)
  | (obtain ⟨_, _, _, _, _, rfl, _⟩ := hv; exact ⟨rfl, rfl, rfl⟩)
  | (obtain ⟨a, cap, rfl, _⟩ := hv; exact ⟨rfl, rfl, rfl⟩)
  | (obtain ⟨⟨b, n, c, rfl⟩, _⟩ := hv; exact ⟨rfl, rfl, rfl⟩)
  | (obtain ⟨vs, rfl, _⟩ := hv; exact ⟨rfl, rfl, rfl⟩)
theorem one_cellsL {x : AV} {v : Value} (hx : x.cells.all AV.one = true) (hv : rep ρ M noG x v) : repL ρ M noG x.cells v.cells.toList ∧ ∀ u ∈ v.cells.toList, u.oneCell' = true := by
 have key : ∀ (xs : List AV) (vs : List Value), xs.all AV.one = true → repL ρ M noG xs vs → ∀ u ∈ vs, u.oneCell' = true := by
  intro xs
  induction xs with
  | nil => intro vs _ h; cases vs <;> simp [repL] at h ⊢
  | cons x xs ih =>
   intro vs h1 h2
   cases vs with
   | nil => simp
   | cons v vs =>
    simp only [repL] at h2
    simp only [List.all_cons, Bool.and_eq_true] at h1
    intro u hu
    rcases List.mem_cons.1 hu with rfl | hu
    · exact (one_cells h1.1 h2.1).1
    · exact ih vs h1.2 h2.2 u hu
 cases x
 case agg cs =>
  simp only [rep] at hv
  obtain ⟨vs, rfl, hvs⟩ := hv
  exact ⟨hvs, key _ _ hx hvs⟩
 all_goals
  have hx' := hx
  simp only [AV.cells, List.all_cons, List.all_nil, Bool.and_true] at hx'
  obtain ⟨h1, h2, h3⟩ := one_cells hx' hv
  rw [h2]
  simp only [repL, AV.cells, List.mem_singleton, forall_eq, and_true]
  exact ⟨hv, h1⟩
end

def Does (B : Nat → Prop) (w0 : World) (M0 : Mem) (P : Program) (o : Oper) (a : Act) (w : World) (h : List AObj) (ρ : Loc) (M : Mem) (x : AV) (effs : Eff) : Prop :=
 ∀ (next : Act → World → Prop) (Q : Exit → Act → World → Prop),
  (∀ v w' ρ' M', ρ.only ρ' effs → M.le M' → SimH B w0 M0 (applyEff h effs) w' ρ' M' → rep ρ' M' noG x v → next (a.put o.dst v) w') → o.wp P a w next Q

section
variable {P : Program} {B : Nat → Prop} {w0 w : World} {M0 M : Mem} {h : List AObj} {ρ : Loc} {a : Act} {o : Oper} {x : AV} {v : Value}
theorem does_pure (H : SimH B w0 M0 h w ρ M) (hrun : (execOp a.eval o).run P w = .ok (.value v) w) (hv : rep ρ M noG x v) : Does B w0 M0 P o a w h ρ M x [] := by
 intro next Q hnext
 unfold Oper.wp
 rw [hrun]
 exact hnext v w ρ M (Loc.only_refl _ _) (Mem.le_refl _) H hv
theorem does_value {w' : World} {ρ' : Loc} {M' : Mem} {effs : Eff} (hrun : (execOp a.eval o).run P w = .ok (.value v) w') (hρ : ρ.only ρ' effs) (hM : M.le M') (H : SimH B w0 M0 (applyEff h effs) w' ρ' M') (hv : rep ρ' M' noG x v) : Does B w0 M0 P o a w h ρ M x effs := by
 intro next Q hnext
 unfold Oper.wp
 rw [hrun]
 exact hnext v w' ρ' M' hρ hM H hv
theorem does_skip {w' : World} {ρ' : Loc} {M' : Mem} {effs : Eff} (hrun : (execOp a.eval o).run P w = .ok .skip w') (hρ : ρ.only ρ' effs) (hM : M.le M') (H : SimH B w0 M0 (applyEff h effs) w' ρ' M') : Does B w0 M0 P o a w h ρ M .unk effs := by
 intro next Q hnext
 unfold Oper.wp
 rw [hrun]
 exact hnext undef w' ρ' M' hρ hM H (by simp [rep])
end

section
variable {P : Program} {B : Nat → Prop} {w0 w : World} {M0 M : Mem} {h hr : List AObj} {ρ : Loc}

theorem load_ptr (H : SimH B w0 M0 h w ρ M) {t : TypeId} {cs : List AV} {ct : TypeId} {id off : Nat} {x : AV} {v : Value} (ho : hget h id = .cells ct cs) (hx : loadFrom P t cs off = some x) (hp : rep ρ M noG (.ptr id off) v) :
  ∃ u, (Instr.loadAt t v).run P w = .ok u w ∧ rep ρ M noG x u := by
 have := H.obj id
 rw [ho] at this
 obtain ⟨r, vs, h1, _, h2, h3, _⟩ := this
 simp only [rep] at hp
 obtain ⟨r', h4, rfl⟩ := hp
 rw [h1] at h4
 injection h4 with h4
 injection h4 with h4
 subst h4
 obtain ⟨u, hu, hr⟩ := run_loadVar_of (w := w) (b := r) (R := rep ρ M noG) hx 0 (fun j y hy => by
  obtain ⟨u, hu, hr⟩ := repL_get h3 j y hy
  exact ⟨u, by rw [cell_of_block h2]; simpa using hu, hr⟩) (fun ys us hl hh => by
   simp only [rep]
   refine ⟨us, rfl, ?_⟩
   clear hx
   induction ys generalizing us with
   | nil => cases us <;> simp [repL] at hl ⊢
   | cons y ys ih =>
    cases us with
    | nil => simp at hl
    | cons u us =>
     simp only [repL]
     exact ⟨hh 0 y u rfl rfl, ih us (by simpa using hl) fun j y' u' h1 h2 => hh (j + 1) y' u' (by simpa using h1) (by simpa using h2)⟩)
 refine ⟨u, ?_, hr⟩
 simp only [Instr.loadAt, Instr.sureAddr]
 simpa using hu
theorem load_ep (H : SimH B w0 M0 h w ρ M) {t : TypeId} {c : Coll} {i off : Nat} {x : AV} {v : Value} (hx : loadFrom P t (c.get i) off = some x) (hp : rep ρ M noG (.ep c i off) v) :
  ∃ u, (Instr.loadAt t v).run P w = .ok u w ∧ rep ρ M noG x u := by
 simp only [rep] at hp
 obtain ⟨hi, _, b, o, rfl, hrd⟩ := hp
 obtain ⟨u, hu, hr⟩ := run_loadVar_of (w := w) (b := b) (R := rep ρ M noG) hx (o + i * c.esz) (fun j y hy => by
  obtain ⟨u, hu, hm⟩ := hrd i hi j y hy
  refine ⟨u, H.mem _ _ _ hu, ?_⟩
  cases y <;> simp only [sc] at hm <;> simp only [rep] <;> first | exact hm | exact repC_up _ _ _ hm | exact hm.elim) (fun ys us hl hh => by
   simp only [rep]
   refine ⟨us, rfl, ?_⟩
   clear hx
   induction ys generalizing us with
   | nil => cases us <;> simp [repL] at hl ⊢
   | cons y ys ih =>
    cases us with
    | nil => simp at hl
    | cons u us =>
     simp only [repL]
     exact ⟨hh 0 y u rfl rfl, ih us (by simpa using hl) fun j y' u' h1 h2 => hh (j + 1) y' u' (by simpa using h1) (by simpa using h2)⟩)
 refine ⟨u, ?_, hr⟩
 simp only [Instr.loadAt, Instr.sureAddr]
 simpa using hu
theorem load_evp (H : SimH B w0 M0 h w ρ M) {t : TypeId} {f : Bool} {c : Coll} {id i off : Nat} {x : AV} {v : Value} (ho : hget h id = .vec f c) (hx : loadFrom P t (c.get i) off = some x) (hp : rep ρ M noG (.evp id c.esz i off) v) :
  ∃ u, (Instr.loadAt t v).run P w = .ok u w ∧ rep ρ M noG x u := by
 have hobj := H.obj id
 rw [ho] at hobj
 obtain ⟨hv, g1, g2⟩ := hobj
 simp only [rep] at hp
 obtain ⟨_, r, n, cap, h1, hi, rfl⟩ := hp
 rw [g1] at h1
 injection h1 with h1
 injection h1 with h1
 subst h1
 rcases g2 with ⟨g2, _⟩ | ⟨r', cap', vs, ct, e, k2, k3, k4, k5, k6, k7, _⟩
 · cases g2
 injection e with e1 e2 e3
 injection e1 with e1
 injection e1 with e1
 subst e1; subst e2; subst e3
 obtain ⟨u, hu, hr⟩ := run_loadVar_of (w := w) (b := r) (R := rep ρ M noG) hx (i * c.esz) (fun j y hy => by
  obtain ⟨u, hu, hm⟩ := k7 i hi j y hy
  refine ⟨u, by rw [cell_of_block k3]; exact hu, ?_⟩
  cases y <;> simp only [repE, sc] at hm <;> simp only [rep] <;> first | exact hm | exact repC_up _ _ _ hm | exact hm.elim) (fun ys us hl hh => by
   simp only [rep]
   refine ⟨us, rfl, ?_⟩
   clear hx
   induction ys generalizing us with
   | nil => cases us <;> simp [repL] at hl ⊢
   | cons y ys ih =>
    cases us with
    | nil => simp at hl
    | cons u us =>
     simp only [repL]
     exact ⟨hh 0 y u rfl rfl, ih us (by simpa using hl) fun j y' u' h1 h2 => hh (j + 1) y' u' (by simpa using h1) (by simpa using h2)⟩)
 refine ⟨u, ?_, hr⟩
 simp only [Instr.loadAt, Instr.sureAddr]
 simpa using hu
end
end Go.Eng
end
section
namespace Go.Eng
open Go.RowKit (Below)

section
variable {P : Program} {B : Nat → Prop} {w0 w : World} {M0 M : Mem} {h hr : List AObj} {ρ : Loc}

theorem store_ptr (H : SimH B w0 M0 h w ρ M) {t ct : TypeId} {cs : List AV} {id off : Nat} {x : AV} {p v : Value} (ho : hget h id = .cells ct cs) (hp : rep ρ M noG (.ptr id off) p) (hv : rep ρ M noG x v)
  (hi : (P.info? t).isSome = true) (hl : x.cells.length = tsize P t) (hoff : off + x.cells.length ≤ cs.length) (h1 : x.cells.all AV.one = true) :
  ∃ w', (Instr.storeAt t p v).run P w = .ok () w' ∧ SimH B w0 M0 (hset h id (.cells ct (splice cs off x.cells))) w' ρ M := by
 obtain ⟨hc, hone⟩ := one_cellsL h1 hv
 have hobj := H.obj id
 rw [ho] at hobj
 obtain ⟨r, vs, e1, e0, e2, e3, e5⟩ := hobj
 have e4 := (H.own _ _ e0).1
 simp only [rep] at hp
 obtain ⟨r', h4, rfl⟩ := hp
 rw [e1] at h4
 injection h4 with h4
 injection h4 with h4
 subst h4
 have hlen := repL_length e3
 have hlc := repL_length hc
 have hrl := (Array.getElem?_eq_some_iff.1 e2).1
 refine ⟨putCells w r (spliceV vs off v.cells.toList) ct, ?_, ?_⟩
 · simp only [Instr.storeAt, Instr.sureAddr, Sem.run_bind, Sem.run_pure, Result.andThen_ok, storeVar, run_sizeOf t w hi]
   have hz : v.cells.size = tsize P t := by rw [← hl, hlc]; simp
   simp only [hz, ne_eq, not_true_eq_false, if_false]
   have := run_storeCells (P := P) (o := off) v.cells.toList vs 0 w e2 (by rw [← hlen, ← hlc]; simpa using hoff) hone
   simpa using this
 · refine H.update id _ (fun _ _ => rfl) (Loc.le_refl _) (Mem.le_refl _) ?_ ?_ (fun r' i hr' => ⟨(H.own r' i hr').1, by rw [putCells_size]; exact (H.own r' i hr').2⟩) ?_ (fun _ _ _ => rfl) (putCells_below e4)
   · exact ⟨r, _, e1, e0, putCells_at hrl, repL_splice off e3 hc, e5⟩
   · intro i r' hne hd hr'
     refine ⟨hr', putCells_ne fun e => hne ?_, fun _ h => h⟩
     subst e
     rw [e0] at hr'
     injection hr' with hr'
     exact hr'.symm
   · intro b o u hu
     have := H.mem b o u hu
     have hb : b ≠ r := fun e => by subst e; rw [e5 o] at hu; cases hu
     rw [← this]
     unfold World.cell?
     simp only []
     rw [putCells_ne hb]

theorem cells_avOf (z : Value) : repL ρ M noG (avOf z).cells z.cells.toList := by
 unfold avOf
 split
 · exact repL_av1 ρ M noG _
 · rename_i hz
   have hc : z.cells = #[z] := by cases z <;> first | rfl | exact absurd rfl (hz _)
   have h1 : (av1 z).cells = [av1 z] := by unfold av1; split <;> rfl
   rw [hc, h1]
   simp only [repL, and_true]
   exact rep_av1 ρ M noG z

theorem run_newVar (t : TypeId) (v : Value) : (newVar t v).run P w = .ok ⟨w.heap.size, 0, none⟩ (w.alloc (.cells v.cells t)) := rfl
theorem alloc_new (H : SimH B w0 M0 h w ρ M) {t : TypeId} {z : AV} {id : Nat} (hz : tzero P t = some z) (hid : ρ id = none) :
  ∃ w', (Instr.alloc t true (.tuple #[])).run P w = .ok (.pointer (some ⟨w.heap.size, 0, none⟩)) w' ∧ SimH B w0 M0 (hset h id (.cells t z.cells)) w' (ρ.put id (.blk w.heap.size) w.heap.size) M := by
 unfold tzero at hz
 cases hi : P.info? t with
 | none => rw [hi] at hz; cases hz
 | some i =>
  rw [hi] at hz
  simp only [Option.bind_some] at hz
  cases hzz : i.zero with
  | none => rw [hzz] at hz; cases hz
  | some zv =>
   rw [hzz] at hz
   injection hz with hz
   subst hz
   refine ⟨_, ?_, H.alloc id hid t _ _ (cells_avOf zv)⟩
   simp only [Instr.alloc, Sem.run_bind, run_zeroValue hi hzz, Result.andThen_ok, run_newVar, Sem.run_pure]
theorem box_new (H : SimH B w0 M0 h w ρ M) {t : TypeId} {x : AV} {v : Value} {id : Nat} (hv : rep ρ M noG x v) (h1 : x.cells.all AV.one = true) (hid : ρ id = none) :
  ∃ w', (Instr.box t v).run P w = .ok (.pointer (some ⟨w.heap.size, 0, none⟩)) w' ∧ SimH B w0 M0 (hset h id (.cells t x.cells)) w' (ρ.put id (.blk w.heap.size) w.heap.size) M := by
 refine ⟨_, ?_, H.alloc id hid t _ _ (one_cellsL h1 hv).1⟩
 simp only [Instr.box, Sem.run_bind, run_newVar, Result.andThen_ok, Sem.run_pure]

theorem rep_put_ptr {id r r' : Nat} : rep (ρ.put id (.blk r) r') M noG (.ptr id 0) (.pointer (some ⟨r, 0, none⟩)) := by
 simp only [rep]
 exact ⟨r, by simp [Loc.put], rfl⟩

theorem run_fieldAt {s : TypeId} {f off : Nat} {ft : TypeId} (hf : fieldOff P s f = some (off, ft)) (hz : tsize P ft ≠ 0) (b o : Nat) (w : World) :
  (Instr.fieldAt s (.pointer (some ⟨b, o, none⟩)) f).run P w = .ok (.pointer (some ⟨b, o + off, none⟩)) w := by
 unfold fieldOff at hf
 cases hu : P.underlying s with
 | none => rw [hu] at hf; cases hf
 | some d =>
  rw [hu] at hf
  cases d with
  | struct fs =>
   simp only [] at hf
   cases hfs : fs[f]? with
   | none => rw [hfs] at hf; cases hf
   | some fd =>
    rw [hfs] at hf
    simp only [Option.map_some, Option.some.injEq, Prod.mk.injEq] at hf
    obtain ⟨rfl, rfl⟩ := hf
    have hi : (P.info? fd.type).isSome = true := by
     unfold tsize at hz
     cases hi : P.info? fd.type with
     | none => rw [hi] at hz; simp at hz
     | some i => rfl
    simp only [Instr.fieldAt, Sem.run_bind, run_underlying hu, Result.andThen_ok, hfs, Instr.sureAddr, Sem.run_pure, fieldPlace, run_sizeOf fd.type w hi, hz, if_false, Addr.add_lit]
  | _ => cases hf

theorem fieldAddr_rep {s : TypeId} {f off : Nat} {ft : TypeId} (hf : fieldOff P s f = some (off, ft)) (hz : tsize P ft ≠ 0) {id o : Nat} {v : Value} (hv : rep ρ M noG (.ptr id o) v) :
  ∃ u, (Instr.fieldAt s v f).run P w = .ok u w ∧ rep ρ M noG (.ptr id (o + off)) u := by
 simp only [rep] at hv
 obtain ⟨r, h1, rfl⟩ := hv
 exact ⟨_, run_fieldAt hf hz r o w, by simp only [rep]; exact ⟨r, h1, rfl⟩⟩
theorem fieldAddr_ep {s : TypeId} {f off : Nat} {ft : TypeId} (hf : fieldOff P s f = some (off, ft)) (hz : tsize P ft ≠ 0) {c : Coll} {i o : Nat} {v : Value} (hle : o + off ≤ c.esz) (hv : rep ρ M noG (.ep c i o) v) :
  ∃ u, (Instr.fieldAt s v f).run P w = .ok u w ∧ rep ρ M noG (.ep c i (o + off)) u := by
 simp only [rep] at hv
 obtain ⟨h1, _, b, q, rfl, h2⟩ := hv
 exact ⟨_, run_fieldAt hf hz b _ w, by simp only [rep]; exact ⟨h1, hle, b, q, by rw [Nat.add_assoc], h2⟩⟩
theorem fieldAddr_evp {s : TypeId} {f off : Nat} {ft : TypeId} (hf : fieldOff P s f = some (off, ft)) (hz : tsize P ft ≠ 0) {id e i o : Nat} {v : Value} (hle : o + off ≤ e) (hv : rep ρ M noG (.evp id e i o) v) :
  ∃ u, (Instr.fieldAt s v f).run P w = .ok u w ∧ rep ρ M noG (.evp id e i (o + off)) u := by
 simp only [rep] at hv
 obtain ⟨_, r, n, cap, h1, h2, rfl⟩ := hv
 exact ⟨_, run_fieldAt hf hz r _ w, by simp only [rep]; exact ⟨hle, r, n, cap, h1, h2, by rw [Nat.add_assoc]⟩⟩
theorem indexAddr_vec (H : SimH B w0 M0 h w ρ M) {t e : TypeId} {f : Bool} {c : Coll} {id : Nat} {k : IntKind} {i : Int} {v : Value} (ho : hget h id = .vec f c) (hu : P.underlying t = some (.slice e)) (hi : (P.info? e).isSome = true) (hs : tsize P e = c.esz) (h0 : 0 ≤ i) (h1 : i < c.len)
  (hv : rep ρ M noG (.vec id) v) : ∃ u, (Instr.indexAt t v (.int k i)).run P w = .ok u w ∧ rep ρ M noG (.evp id c.esz i.toNat 0) u := by
 have hobj := H.obj id
 rw [ho] at hobj
 obtain ⟨hh, g1, g2⟩ := hobj
 simp only [rep] at hv
 have hv := hv.2
 rw [g1] at hv
 injection hv with hv
 injection hv with hv
 subst hv
 rcases g2 with ⟨_, g2⟩ | ⟨r, cap, vs, ct, rfl, _⟩
 · omega
 refine ⟨.pointer (some ((⟨r, 0, none⟩ : Addr).add (i.toNat * tsize P e))), ?_, ?_⟩
 · simp only [Instr.indexAt, Sem.run_bind, asIntOf, Sem.run_pure, Result.andThen_ok, run_underlying hu, Sem.run_ite]
   simp [h0, h1, run_sizeOf e w hi]
 · simp only [rep]
   refine ⟨Nat.zero_le _, r, _, _, g1, by omega, ?_⟩
   rw [Addr.add_lit, hs]
   simp
theorem indexAddr_coll {t e : TypeId} {c : Coll} {k : IntKind} {i : Int} {v : Value} (hu : P.underlying t = some (.slice e)) (hi : (P.info? e).isSome = true) (hs : tsize P e = c.esz) (h0 : 0 ≤ i) (h1 : i < c.len)
  (hv : rep ρ M noG (.coll c) v) : ∃ u, (Instr.indexAt t v (.int k i)).run P w = .ok u w ∧ rep ρ M noG (.ep c i.toNat 0) u := by
 simp only [rep] at hv
 obtain ⟨ad, cap, rfl, hl, hr⟩ := hv
 obtain ⟨b, o, rfl, hrd⟩ := hr (by omega)
 refine ⟨.pointer (some ((⟨b, o, none⟩ : Addr).add (i.toNat * tsize P e))), ?_, ?_⟩
 · simp only [Instr.indexAt, Sem.run_bind, asIntOf, Sem.run_pure, Result.andThen_ok, run_underlying hu, Sem.run_ite]
   simp [h0, h1, run_sizeOf e w hi]
 · simp only [rep]
   refine ⟨by omega, Nat.zero_le _, b, o, ?_, hrd⟩
   rw [Addr.add_lit, hs]
   rfl

theorem indexAddr_arr {t e : TypeId} {m : Nat} {k : IntKind} {i : Int} {id o : Nat} {v : Value} (hu : P.underlying t = some (.array m e)) (hi : (P.info? e).isSome = true) (h0 : 0 ≤ i) (h1 : i < m)
  (hv : rep ρ M noG (.ptr id o) v) : ∃ u, (Instr.indexAt t v (.int k i)).run P w = .ok u w ∧ rep ρ M noG (.ptr id (o + i.toNat * tsize P e)) u := by
 simp only [rep] at hv
 obtain ⟨b, hb, rfl⟩ := hv
 refine ⟨.pointer (some ((⟨b, o, none⟩ : Addr).add (i.toNat * tsize P e))), ?_, ?_⟩
 · simp only [Instr.indexAt, Sem.run_bind, asIntOf, Sem.run_pure, Result.andThen_ok, run_underlying hu, Sem.run_ite, Instr.sureAddr]
   simp [h0, h1, run_sizeOf e w hi]
 · simp only [rep]
   exact ⟨b, hb, by rw [Addr.add_lit]⟩
theorem run_index_string {t : TypeId} {s : ByteArray} {k : IntKind} {i : Int} (hu : P.underlying t = some .string) (h0 : 0 ≤ i) (h1 : i < s.size) :
  (Instr.index t (.string s) (.int k i)).run P w = .ok (.int .u8 (byteAt s i)) w := by
 have hlt : i.toNat < s.size := by omega
 have hg : s[i.toNat]? = some s[i.toNat] := by simp [hlt]
 have hb : ((s[i.toNat].toNat : Nat) : Int) = byteAt s i := by
  unfold byteAt
  congr 1
  rw [Array.getD_eq_getD_getElem?]
  have hs : i.toNat < s.data.size := hlt
  rw [Array.getElem?_eq_getElem hs]
  rfl
 simp only [Instr.index, Sem.run_bind, asIntOf, Sem.run_pure, Result.andThen_ok, run_underlying hu, h0, if_true, hg, hb]

theorem toList_inj {a b : ByteArray} : (a.toList == b.toList) = decide (a = b) := by
 rw [Bool.eq_iff_iff]
 simp only [beq_iff_eq, decide_eq_true_eq]
 constructor
 · intro h
   have : a.data.toList = b.data.toList := by rw [← ByteArray.toList_eq a, ← ByteArray.toList_eq b]; exact h
   cases a; cases b
   simp only [ByteArray.mk.injEq]
   exact Array.toList_inj.1 this
 · rintro rfl; rfl

theorem eqOne_run {x y : AV} {u v : Value} {r : Bool} {t : TypeId} (he : eqOne x y = some r) (hk : tkindOk P t x = true) (hu : rep ρ M noG x u) (hv : rep ρ M noG y v) (n : Nat) (w : World) : (Op.equalIn (n + 1) t u v).run P w = .ok r w := by
 unfold eqOne at he
 split at he
 · rename_i k a k' b
   split at he
   · rename_i hkk
     subst hkk
     injection he with he
     subst he
     simp only [rep] at hu hv
     subst hu; subst hv
     unfold tkindOk at hk
     simp only [] at hk
     split at hk
     · rename_i k'' hd; exact run_equalIn_int w n t k k'' a b hd
     · cases hk
   · cases he
 · injection he with he
   subst he
   simp only [rep] at hu hv
   subst hu; subst hv
   unfold tkindOk at hk
   simp only [] at hk
   split at hk
   · rename_i hd; exact run_equalIn_bool' w n t _ _ hd
   · cases hk
 · injection he with he
   subst he
   simp only [rep] at hu hv
   subst hu; subst hv
   unfold tkindOk at hk
   simp only [] at hk
   split at hk
   · rename_i hd; rw [run_equalIn_string w n t _ _ hd, toList_inj]
   · cases hk
 · cases he

def valOf (P : Program) (t : TypeId) (us : List Value) : Value := if tagg P t then .agg ⟨us⟩ else us.headD undef
theorem run_part (t : TypeId) (us : List Value) (off : Nat) (w : World) (hu : (P.underlying t).isSome = true) (hi : tagg P t = true → (P.info? t).isSome = true) (h1 : tagg P t = false → (us.drop off).take (tsize P t) ≠ []) :
  (part t ⟨us⟩ off).run P w = .ok (valOf P t ((us.drop off).take (tsize P t))) w := by
 unfold part valOf
 by_cases hg : tagg P t = true
 · simp only [Sem.run_bind, run_isAgg t w hu, Result.andThen_ok, hg, if_true, run_sizeOf t w (hi hg), Sem.run_pure]
   congr 2
   apply Array.ext'
   simp [List.extract_eq_take_drop]
 · have hg' : tagg P t = false := by simpa using hg
   have ht := h1 hg'
   have hlt : off < us.length := by
    rcases Nat.lt_or_ge off us.length with h | h
    · exact h
    · rw [List.drop_eq_nil_of_le h] at ht; simp at ht
   have hp : ∃ n, tsize P t = n + 1 := by
    cases hz : tsize P t with
    | zero => rw [hz] at ht; simp at ht
    | succ n => exact ⟨n, rfl⟩
   obtain ⟨n, hn⟩ := hp
   have hget : (⟨us⟩ : Array Value)[off]? = some us[off] := by simp [hlt]
   simp only [Sem.run_bind, run_isAgg t w hu, Result.andThen_ok, hg', Bool.false_eq_true, if_false, hget, Sem.run_pure, hn]
   congr 1
   rw [List.drop_eq_getElem_cons hlt]
   rfl
theorem eqTy_under {d : Nat} {t : TypeId} {xs ys : List AV} {r : Bool} (h : eqTy P d t xs ys = some r) : (P.underlying t).isSome = true ∧ (tagg P t = true → (P.info? t).isSome = true) ∧ (tagg P t = false → xs ≠ [] ∧ ys ≠ []) := by
 cases d with
 | zero => cases h
 | succ d =>
  unfold eqTy at h
  split at h
  · split at h
    · rename_i hc
      simp only [Bool.and_eq_true, Bool.not_eq_true'] at hc
      refine ⟨?_, fun hg => (by rw [hc.1] at hg; cases hg), fun _ => ⟨by simp, by simp⟩⟩
      have hk := hc.2
      unfold tkindOk at hk
      split at hk <;> first | (split at hk <;> first | (rename_i hd; rw [hd]; rfl) | cases hk) | cases hk
    · cases h
  · split at h
    · rename_i fs hd
      have hg : tagg P t = true := by unfold tagg; rw [hd]
      split at h
      · cases h
      · split at h
        · rename_i hc
          simp only [Bool.and_eq_true] at hc
          exact ⟨by rw [hd]; rfl, fun _ => hc.2, fun hf => by rw [hg] at hf; cases hf⟩
        · cases h
    · cases h
theorem repL_ne {G : Nat → Bool → Prop} {xs : List AV} {vs : List Value} (h : repL ρ M G xs vs) (hx : xs ≠ []) : vs ≠ [] := by
 intro e
 subst e
 have := repL_length h
 exact hx (List.length_eq_zero_iff.1 (by simpa using this))
theorem eqFs_run {d : Nat} (hq : ∀ (t : TypeId) (xs ys : List AV) (us vs : List Value) (r : Bool), eqTy P d t xs ys = some r → repL ρ M noG xs us → repL ρ M noG ys vs → ∀ n, d ≤ n → ∀ w, (Op.equalIn n t (valOf P t us) (valOf P t vs)).run P w = .ok r w)
  {xs ys : List AV} {us vs : List Value} (hx : repL ρ M noG xs us) (hy : repL ρ M noG ys vs) (n : Nat) (hn : d ≤ n) (w : World) :
  ∀ (fs : List Field) (r : Bool), eqFs (eqTy P d) P fs xs ys = some r → (Op.eqFields n ⟨us⟩ ⟨vs⟩ fs).run P w = .ok r w
 | [], r, h => by simp only [eqFs, Option.some.injEq] at h; subst h; simp [Op.eqFields]
 | [f], r, h => by
  simp only [eqFs] at h
  split at h
  · cases h
  · rename_i hf
    have hne : f.name ≠ "_" := by simpa using hf
    obtain ⟨h1, h2, h3⟩ := eqTy_under h
    have sx : repL ρ M noG (seg P f xs) ((us.drop f.offset).take (tsize P f.type)) := repL_take _ (repL_drop _ hx)
    have sy : repL ρ M noG (seg P f ys) ((vs.drop f.offset).take (tsize P f.type)) := repL_take _ (repL_drop _ hy)
    have e := hq _ _ _ _ _ _ h sx sy n hn w
    simp only [Op.eqFields, if_pos hne, Sem.run_bind, run_part f.type us f.offset w h1 h2 (fun hg => repL_ne sx (h3 hg).1), run_part f.type vs f.offset w h1 h2 (fun hg => repL_ne sy (h3 hg).2), Result.andThen_ok, e]
    cases r <;> simp
 | f :: g :: fs, r, h => by
  simp only [eqFs] at h
  split at h
  · cases h
  · rename_i hf
    have hne : f.name ≠ "_" := by simpa using hf
    split at h
    · rename_i ra rb ha hb
      injection h with h
      subst h
      obtain ⟨h1, h2, h3⟩ := eqTy_under ha
      have sx : repL ρ M noG (seg P f xs) ((us.drop f.offset).take (tsize P f.type)) := repL_take _ (repL_drop _ hx)
      have sy : repL ρ M noG (seg P f ys) ((vs.drop f.offset).take (tsize P f.type)) := repL_take _ (repL_drop _ hy)
      have e := hq _ _ _ _ _ _ ha sx sy n hn w
      have er := eqFs_run hq hx hy n hn w (g :: fs) rb hb
      rw [Op.eqFields]
      simp only [if_pos hne, Sem.run_bind, run_part f.type us f.offset w h1 h2 (fun hg => repL_ne sx (h3 hg).1), run_part f.type vs f.offset w h1 h2 (fun hg => repL_ne sy (h3 hg).2), Result.andThen_ok, e]
      cases ra
      · simp
      · simpa using er
    · cases h
theorem eqTy_run : ∀ (d : Nat) (t : TypeId) (xs ys : List AV) (us vs : List Value) (r : Bool), eqTy P d t xs ys = some r → repL ρ M noG xs us → repL ρ M noG ys vs → ∀ n, d ≤ n → ∀ w, (Op.equalIn n t (valOf P t us) (valOf P t vs)).run P w = .ok r w
 | 0, _, _, _, _, _, _, h, _, _, _, _, _ => by cases h
 | d + 1, t, xs, ys, us, vs, r, h, hx, hy, n, hn, w => by
  obtain ⟨m, rfl⟩ : ∃ m, n = m + 1 := ⟨n - 1, by omega⟩
  unfold eqTy at h
  split at h
  · rename_i x y
    split at h
    · rename_i hc
      simp only [Bool.and_eq_true, Bool.not_eq_true'] at hc
      cases us with
      | nil => simp [repL] at hx
      | cons u us =>
       cases vs with
       | nil => simp [repL] at hy
       | cons v vs =>
        simp only [repL] at hx hy
        simp only [valOf, hc.1, Bool.false_eq_true, if_false, List.headD_cons]
        exact eqOne_run h hc.2 hx.1 hy.1 m w
    · cases h
  · split at h
    · rename_i fs hd
      have hg : tagg P t = true := by unfold tagg; rw [hd]
      split at h
      · cases h
      · rename_i hst
        split at h
        · have hfs : P.fieldsOf t = fs := by simp [Program.fieldsOf, hd]
          simp only [valOf, hg, if_true]
          rw [run_equalIn_struct w m t ⟨us⟩ ⟨vs⟩ (by rw [hfs]; exact hd) (by simpa using hst), hfs]
          exact eqFs_run (eqTy_run d) hx hy m (by omega) w _ r h
        · cases h
    · cases h

def like1 (x z : AV) : Prop := x = z ∨ (x = .nils ∧ ∃ k, z = .coll ⟨k, []⟩)
theorem decObj_eq {l : List AV} {o : XObj} (h : decObj l = some o) : l = encObj o := by
 unfold decObj at h
 split at h
 · injection h with h; subst h; rfl
 · cases h
theorem decCall_eq {l : List AV} {o : XCall} (h : decCall l = some o) : l = encCall o := by
 unfold decCall at h
 split at h
 · injection h with h; subst h; rfl
 · cases h
theorem decRes_eq {l : List AV} {o : XRes} (h : decRes l = some o) : l = encRes o := by
 unfold decRes at h
 split at h
 · injection h with h; subst h; rfl
 · cases h
theorem decStrs_like {x : AV} {l : List ByteArray} (h : decStrs x = some l) : like1 x (.coll ⟨.str, l⟩) := by
 unfold decStrs at h
 split at h
 · injection h with h; subst h; exact .inl rfl
 · injection h with h; subst h; exact .inr ⟨rfl, _, rfl⟩
 · cases h
theorem decLabels_like {x : AV} {l : List XLabel} (h : decLabels x = some l) : like1 x (.coll ⟨.label, l⟩) := by
 unfold decLabels at h
 split at h
 · injection h with h; subst h; exact .inl rfl
 · injection h with h; subst h; exact .inr ⟨rfl, _, rfl⟩
 · cases h
theorem decTerms_like {x : AV} {l : List XTerm} (h : decTerms x = some l) : like1 x (.coll ⟨.term, l⟩) := by
 unfold decTerms at h
 split at h
 · injection h with h; subst h; exact .inl rfl
 · injection h with h; subst h; exact .inr ⟨rfl, _, rfl⟩
 · cases h
def likeL : List AV → List AV → Prop
 | [], [] => True
 | x :: xs, z :: zs => like1 x z ∧ likeL xs zs
 | _, _ => False
theorem likeL_refl : ∀ l : List AV, likeL l l
 | [] => trivial
 | _ :: l => ⟨.inl rfl, likeL_refl l⟩
theorem likeL_length : ∀ {l m : List AV}, likeL l m → l.length = m.length
 | [], [], _ => rfl
 | _ :: l, _ :: m, h => by simp [likeL_length h.2]
 | [], _ :: _, h => h.elim
 | _ :: _, [], h => h.elim
theorem likeL_get : ∀ {l m : List AV}, likeL l m → ∀ (j : Nat) (z : AV), m[j]? = some z → ∃ x, l[j]? = some x ∧ like1 x z
 | [], [], _, j, z, hz => by simp at hz
 | x :: l, y :: m, h, 0, z, hz => by simp at hz; subst hz; exact ⟨x, rfl, h.1⟩
 | x :: l, y :: m, h, j + 1, z, hz => by simpa using likeL_get h.2 j z (by simpa using hz)
 | [], _ :: _, h, _, _, _ => h.elim
 | _ :: _, [], h, _, _, _ => h.elim
theorem Kind.dec_like (k : Kind) {l : List AV} {y : k.Ty} (h : k.dec l = some y) : likeL l (k.enc y) := by
 have e : ∀ {m : List AV}, l = m → likeL l m := fun e => e ▸ likeL_refl _
 cases k <;> simp only [Kind.dec] at h
 case int k =>
  split at h
  · split at h
    · rename_i hk; injection h with h; subst h; subst hk; exact e rfl
    · cases h
  · cases h
 case obj => exact e (decObj_eq h)
 case call => exact e (decCall_eq h)
 case term =>
  split at h
  · obtain ⟨xs, h1, h2⟩ := Option.map_eq_some_iff.1 h
    subst h2
    exact ⟨.inl rfl, decStrs_like h1, trivial⟩
  · cases h
 case vol =>
  split at h
  · obtain ⟨xs, h1, h2⟩ := Option.map_eq_some_iff.1 h
    subst h2
    exact ⟨.inl rfl, .inl rfl, .inl rfl, .inl rfl, decStrs_like h1, trivial⟩
  · cases h
 case done =>
  split at h
  · rename_i c r hc hr
    injection h with h; subst h
    exact e (by rw [← List.take_append_drop 7 l, decCall_eq hc, decRes_eq hr]; rfl)
  · cases h
 case deed =>
  split at h
  · rename_i c t hc hr
    injection h with h; subst h
    exact e (by rw [← List.take_append_drop 7 l, decCall_eq hc, hr]; rfl)
  · cases h
 case deed2 =>
  split at h
  · rename_i c a b t i hc hr
    injection h with h; subst h
    exact e (by rw [← List.take_append_drop 7 l, decCall_eq hc, hr]; rfl)
  · cases h
 case event =>
  split at h
  · rename_i a b t hc hr
    injection h with h; subst h
    exact e (by rw [← List.take_append_drop 2 l, hc, decObj_eq hr]; rfl)
  · cases h
 case strs =>
  split at h
  · exact ⟨decStrs_like h, trivial⟩
  · cases h
 case labels =>
  split at h
  · exact ⟨decLabels_like h, trivial⟩
  · cases h
 case terms =>
  split at h
  · exact ⟨decTerms_like h, trivial⟩
  · cases h
 all_goals
  split at h
  · injection h with h; subst h; exact e rfl
  · cases h
theorem repE_like {x z : AV} {u : Value} (hl : like1 x z) (hz : (∃ c : Coll, z = .coll c) ∨ z.isSc = true) (hx : rep ρ M noG x u) : repE M z u := by
 rcases hl with rfl | ⟨rfl, k, rfl⟩
 · rcases hz with ⟨c, rfl⟩ | hs
   · exact repC_down (by simpa [rep] using hx)
   · cases x <;> simp [AV.isSc] at hs <;> simpa [repE, sc, rep] using hx
 · simp only [rep] at hx
   subst hx
   exact ⟨none, 0, rfl, Nat.le_refl _, fun h => absurd h (Nat.lt_irrefl 0)⟩
theorem Kind.dec_rep (k : Kind) {l : List AV} {us : List Value} {y : k.Ty} (h : k.dec l = some y) (hr : repL ρ M noG l us) : repX M k y us := by
 have hl := k.dec_like h
 refine ⟨by rw [← repL_length hr, likeL_length hl, k.enc_length], fun j z hz => ?_⟩
 obtain ⟨x, hx, hk⟩ := likeL_get hl j z hz
 obtain ⟨u, hu, hru⟩ := repL_get hr j x hx
 exact ⟨u, hu, repE_like hk ((k.enc_cell y j z hz).imp (fun ⟨c, h, _⟩ => ⟨c, h⟩) id) hru⟩

end
end Go.Eng
end
section
namespace Go.Eng
open Go.RowKit (Below)

section
variable {P : Program} {B : Nat → Prop} {w0 w : World} {M0 M : Mem} {h hr : List AObj} {ρ : Loc}

theorem run_eqGuard_of {op : BinOp} {t : TypeId} {x y : Operand} {u v : Value} (h1 : ∀ xs ys, u = .agg xs → v = .agg ys → P.eqGuardType P.depth t = false) (h2 : u ≠ .nilIface) (w : World) : (eqGuard op t x y u v).run P w = .ok () w := by
 cases u
 case nilIface => exact absurd rfl h2
 case agg xs =>
  cases v
  case agg ys => exact run_eqGuard_agg w op t x y xs ys (h1 xs ys rfl rfl)
  all_goals (have : ∀ z, eqGuard op t x y (.agg xs) z = eqGuard op t x y (.agg xs) z := fun _ => rfl; cases op <;> rfl)
 all_goals (cases op <;> rfl)

theorem run_binOp_eq {t : TypeId} {u v : Value} {r : Bool} (hn : ∀ k a, u ≠ .int k a) (hs : ∀ s, u ≠ .string s) (hf : ∀ k b, u ≠ .float k b) (hc : ∀ k a b, u ≠ .complex k a b) (he : (Op.equalIn 10000 t u v).run P w = .ok r w) :
  (binOp .eql t u v).run P w = .ok (.bool r) w ∧ (binOp .neq t u v).run P w = .ok (.bool (!r)) w := by
 cases u
 case int k a => exact absurd rfl (hn k a)
 case string s => exact absurd rfl (hs s)
 case float k b => exact absurd rfl (hf k b)
 case complex k a b => exact absurd rfl (hc k a b)
 all_goals
  constructor <;> (cases v <;> (simp only [binOp]; simp [Op.equal, Op.maxDepth, he]))

theorem eqAV_run {t : TypeId} {x y : AV} {u v : Value} {r : Bool} (he : eqAV P t x y = some r) (hu : rep ρ M noG x u) (hv : rep ρ M noG y v) (w : World) :
  (binOp .eql t u v).run P w = .ok (.bool r) w ∧ (binOp .neq t u v).run P w = .ok (.bool (!r)) w := by
 unfold eqAV at he
 split at he
 ·
  rename_i xs ys
  split at he
  · cases he
  · split at he
    · rename_i fs hd
      split at he
      · cases he
      · rename_i hst
        simp only [rep] at hu hv
        obtain ⟨us, rfl, hus⟩ := hu
        obtain ⟨vs, rfl, hvs⟩ := hv
        have hfs : P.fieldsOf t = fs := by simp [Program.fieldsOf, hd]
        have := eqFs_run (eqTy_run 4) hus hvs 9999 (by omega) w _ r he
        refine run_binOp_eq (by simp) (by simp) (by simp) (by simp) ?_
        rw [show (10000 : Nat) = 9999 + 1 from rfl, run_equalIn_struct w 9999 t ⟨us⟩ ⟨vs⟩ (by rw [hfs]; exact hd) (by simpa using hst), hfs]
        exact this
    · cases he
 · split at he
   · rename_i e hd
     injection he with he
     subst he
     simp only [rep] at hu hv
     subst hu; subst hv
     refine run_binOp_eq (by simp) (by simp) (by simp) (by simp) ?_
     have : ∀ n, (Op.equalIn (n + 1) t (.pointer none) (.pointer none)).run P w = .ok true w := fun n => by simp [Op.equalIn, run_underlying hd]
     exact this 9999
   · cases he
 · split at he
   · rename_i e hd
     injection he with he
     subst he
     simp only [rep] at hu hv
     obtain ⟨r, _, rfl⟩ := hu
     subst hv
     refine run_binOp_eq (by simp) (by simp) (by simp) (by simp) ?_
     rename_i o' _
     have : ∀ n a, (Op.equalIn (n + 1) t (.pointer (some a)) (.pointer none)).run P w = .ok false w := fun n a => by simp [Op.equalIn, run_underlying hd]
     exact this 9999 _
   · cases he
 · split at he
   · rename_i a b hd
     injection he with he
     subst he
     simp only [rep] at hu hv
     subst hu; subst hv
     refine run_binOp_eq (by simp) (by simp) (by simp) (by simp) ?_
     exact run_equalIn_bool' w 9999 t _ _ hd
   · cases he
 · split at he
   · rename_i hkk
     injection he with he
     subst hkk
     subst he
     simp only [rep] at hu hv
     subst hu; subst hv
     rename_i k a b
     rw [binOp_eql, binOp_neq]
     exact ⟨rfl, rfl⟩
   · cases he
 · injection he with he
   subst he
   simp only [rep] at hu hv
   subst hu; subst hv
   rw [← toList_inj]
   exact ⟨rfl, rfl⟩
 · cases he

theorem binOp_shr (t : TypeId) (a : Int) : binOp .shr t (.int .u64 a) (.int .u64 1) = pure (.int .u64 (a / 2)) := by
 show Op.shift .shr .u64 a .u64 1 = _
 unfold Op.shift
 rw [if_neg (by decide)]
 show pure (Value.int .u64 (a.fdiv (2 ^ 1))) = _
 rw [Int.fdiv_eq_ediv_of_nonneg _ (by decide)]
 rfl
theorem shl_run (t : TypeId) (k k' : IntKind) {a b : Int} (h : 0 ≤ b) : binOp .shl t (.int k a) (.int k' b) = pure (.int k (shlI k a b)) := by
 show Op.shift .shl k a k' b = _
 unfold Op.shift
 rw [if_neg (by omega)]
 rfl
theorem shr_run (t : TypeId) (k k' : IntKind) {a b : Int} (h : 0 ≤ b) : binOp .shr t (.int k a) (.int k' b) = pure (.int k (shrI k a b)) := by
 show Op.shift .shr k a k' b = _
 unfold Op.shift
 rw [if_neg (by omega)]
 rfl
theorem evBin_run {op : BinOp} {t : TypeId} {x y z : AV} {need : List Prop} {u v : Value} {p q : Operand} (he : evBin P op t x y = some (z, need)) (hneed : ∀ r ∈ need, r) (hu : rep ρ M noG x u) (hv : rep ρ M noG y v) (w : World) :
  ∃ r, (do eqGuard op t p q u v; binOp op t u v : Sem Value).run P w = .ok r w ∧ rep ρ M noG z r := by
 have hx : u ≠ .nilIface → (P.eqGuardType P.depth t = false ∨ (∀ xs, u ≠ .agg xs) ∨ (op ≠ .eql ∧ op ≠ .neq)) → ∀ s, (do eqGuard op t p q u v; s : Sem Value).run P w = s.run P w := by
  intro h1 h2 s
  simp only [Sem.run_bind]
  rcases h2 with h2 | h2 | h2
  · rw [run_eqGuard_of (fun _ _ _ _ => h2) h1]; rfl
  · rw [run_eqGuard_of (fun xs _ e _ => absurd e (h2 xs)) h1]; rfl
  · have : eqGuard op t p q u v = pure () := by cases op <;> first | rfl | exact absurd rfl h2.1 | exact absurd rfl h2.2
    rw [this]; rfl
 unfold evBin at he
 split at he
 all_goals first
  | (
     split at he
     · rename_i hkk
       obtain ⟨rfl, rfl, rfl⟩ := hkk
       simp only [Option.some.injEq, Prod.mk.injEq] at he
       obtain ⟨rfl, rfl⟩ := he
       simp only [rep] at hu hv
       subst hu; subst hv
       rw [hx (by simp) (.inr (.inl (by simp))), Go.Eng.binOp_shr]
       simp only [Sem.run_pure]
       exact ⟨_, rfl, by simp [rep]⟩
     · simp only [Option.some.injEq, Prod.mk.injEq] at he
       obtain ⟨rfl, rfl⟩ := he
       simp only [rep] at hu hv
       subst hu; subst hv
       rw [hx (by simp) (.inr (.inl (by simp))), shr_run _ _ _ (hneed _ (List.mem_singleton_self _))]
       simp only [Sem.run_pure]
       exact ⟨_, rfl, by simp [rep]⟩)
  | (
     simp only [Option.some.injEq, Prod.mk.injEq] at he
     obtain ⟨rfl, rfl⟩ := he
     simp only [rep] at hu hv
     subst hu; subst hv
     rw [hx (by simp) (.inr (.inl (by simp))), shl_run _ _ _ (hneed _ (List.mem_singleton_self _))]
     simp only [Sem.run_pure]
     exact ⟨_, rfl, by simp [rep]⟩)
  | (
     split at he
     · rename_i hkk
       simp only [Option.some.injEq, Prod.mk.injEq] at he
       obtain ⟨rfl, rfl⟩ := he
       (try subst hkk)
       simp only [rep] at hu hv
       subst hu; subst hv
       rw [hx (by simp) (.inr (.inl (by simp)))]
       first
        | (rw [binOp_quo]; simp only [Op.intDiv, if_neg (hneed _ (List.mem_singleton_self _)), Sem.run_pure]; exact ⟨_, rfl, by simp [rep]⟩)
        | (rw [binOp_rem]; simp only [Op.intDiv, if_neg (hneed _ (List.mem_singleton_self _)), Sem.run_pure]; exact ⟨_, rfl, by simp [rep]⟩)
        | (simp only [binOp_and, binOp_or, binOp_xor, Op.intBits, Sem.run_pure]; exact ⟨_, rfl, by simp [rep, bitsI]⟩)
        | (simp only [binOp_add, binOp_sub, binOp_mul, binOp_lss, binOp_leq, binOp_gtr, binOp_geq, Op.intArith, Sem.run_pure]; exact ⟨_, rfl, by simp [rep]⟩)
     · cases he)
  | (
     simp only [Option.some.injEq, Prod.mk.injEq] at he
     obtain ⟨rfl, rfl⟩ := he
     simp only [rep] at hu hv
     subst hu; subst hv
     rw [hx (by simp) (.inr (.inl (by simp)))]
     simp only [binOp, Op.stringOp, Sem.run_pure]
     refine ⟨_, rfl, ?_⟩
     simp only [rep, strLess, toList_inj])
  | (simp only [Option.some.injEq, Prod.mk.injEq] at he
     obtain ⟨rfl, rfl⟩ := he
     simp only [rep] at hu hv
     subst hu; subst hv
     rw [hx (by simp) (.inr (.inl (by simp)))]
     rename_i a b
     have hsz : ¬ (((a.size + b.size : Nat) : Int) > IntKind.i64.max) := by rw [IntKind.max_i64]; have := hneed _ (List.mem_singleton_self _); omega
     simp only [binOp, Op.stringOp, hsz, if_false, Sem.run_pure]
     exact ⟨_, rfl, by simp [rep]⟩)
  | skip
 case h_22 => cases he
 all_goals
  cases hb : eqAV P t x y with
  | none => rw [hb] at he; cases he
  | some b =>
   rw [hb] at he
   simp only [Option.map_some, Option.some.injEq, Prod.mk.injEq] at he
   obtain ⟨rfl, rfl⟩ := he
   have hr := eqAV_run hb hu hv w
   have hu1 : u ≠ .nilIface ∧ (P.eqGuardType P.depth t = false ∨ (∀ xs, u ≠ .agg xs)) := by
    unfold eqAV at hb
    split at hb
    · split at hb
      · cases hb
      · rename_i hg
        simp only [rep] at hu
        obtain ⟨us, rfl, _⟩ := hu
        exact ⟨by simp, .inl (by simpa using hg)⟩
    all_goals first
     | (simp only [rep] at hu; subst hu; exact ⟨by simp, .inr (by simp)⟩)
     | (simp only [rep] at hu; obtain ⟨r, _, rfl⟩ := hu; exact ⟨by simp, .inr (by simp)⟩)
     | cases hb
   rw [hx hu1.1 (hu1.2.imp id .inl)]
   first
    | exact ⟨_, hr.1, by simp [rep]⟩
    | exact ⟨_, hr.2, by simp [rep]⟩
end

section
variable {E : Env} {B : Nat → Prop} {w0 w : World} {M0 M : Mem} {h hr : List AObj} {ρ : Loc} {t : List AV} {a : Act}

theorem fill_run {pl : List (Nat × Nat)} : ∀ (ps : List (Nat × AV)) (us : List (Nat × Value)) (z : List AV) (zs : List Value) (cs : List AV), fillAV pl z ps = some cs → repL ρ M noG z zs → ps.length = us.length →
  (∀ (j : Nat) (p : Nat × AV) (u : Nat × Value), ps[j]? = some p → us[j]? = some u → p.1 = u.1 ∧ repL ρ M noG p.2.cells u.2.cells.toList) → ∃ vs, Instr.fill (fun i => pl[i]?) ⟨zs⟩ us = some ⟨vs⟩ ∧ repL ρ M noG cs vs
 | [], [], z, zs, cs, h, hz, _, _ => by
  simp only [fillAV, Option.some.injEq] at h
  subst h
  exact ⟨zs, rfl, hz⟩
 | p :: ps, u :: us, z, zs, cs, h, hz, hl, hp => by
  obtain ⟨e1, hc⟩ := hp 0 p u rfl rfl
  obtain ⟨pi, px⟩ := p
  obtain ⟨ui, uv⟩ := u
  simp only at e1 hc
  subst e1
  simp only [fillAV] at h
  cases hpl : pl[pi]? with
  | none => rw [hpl] at h; cases h
  | some on =>
   obtain ⟨off, n⟩ := on
   rw [hpl] at h
   simp only [] at h
   split at h
   · rename_i hcond
     obtain ⟨hn, hle⟩ := hcond
     have hlc := repL_length hc
     have hlz := repL_length hz
     have hsize : uv.cells.size = n := by rw [← hn, hlc]; simp
     have hfold : (uv.cells.zipIdx.foldl (fun cs (x : Value × Nat) => cs.setIfInBounds (off + x.2) x.1) (⟨zs⟩ : Array Value)) = ⟨spliceV zs off uv.cells.toList⟩ := by
      have key : ∀ (us : List Value) (zs : List Value) (k : Nat), off + k + us.length ≤ zs.length → ((us.zipIdx k).foldl (fun cs (x : Value × Nat) => cs.setIfInBounds (off + x.2) x.1) (⟨zs⟩ : Array Value)) = ⟨spliceV zs (off + k) us⟩ := by
       intro us
       induction us with
       | nil => intro zs k _; simp [splice_nil]
       | cons u us ih =>
        intro zs k hk
        simp only [List.zipIdx_cons, List.foldl_cons]
        have : (⟨zs⟩ : Array Value).setIfInBounds (off + k) u = ⟨zs.set (off + k) u⟩ := by simp
        rw [this, ih (zs.set (off + k) u) (k + 1) (by simp at hk ⊢; omega), show off + (k + 1) = (off + k) + 1 from by omega, splice_set _ _ _ _ (by simp at hk; omega)]
      have := key uv.cells.toList zs 0 (by rw [← hlc, hn, ← hlz]; simpa using hle)
      rw [← Array.foldl_toList, Array.toList_zipIdx]
      exact this
     simp only [Instr.fill, hpl, hsize, ne_eq, not_true_eq_false, decide_false, Bool.false_or]
     have hsz : (decide (off + n > (⟨zs⟩ : Array Value).size)) = false := by simp; rw [← hlz]; exact hle
     simp only [hsz, Bool.false_eq_true, if_false]
     rw [hfold]
     exact fill_run ps us _ _ cs h (repL_splice off hz hc) (by simpa using hl) (fun j p' u' h1 h2 => hp (j + 1) p' u' (by simpa using h1) (by simpa using h2))
   · cases h
 | [], _ :: _, _, _, _, _, _, hl, _ => by simp at hl
 | _ :: _, [], _, _, _, _, _, hl, _ => by simp at hl
end
end Go.Eng
end
section
namespace Go.Eng
open Go.RowKit (Below)

section
variable {P : Program} {B : Nat → Prop} {w0 w : World} {M0 M : Mem} {h hr : List AObj} {ρ : Loc}

theorem spliceV_get (o : Nat) (us : List Value) : ∀ (vs : List Value) (k : Nat), o + us.length ≤ vs.length → (spliceV vs o us)[k]? = if o ≤ k ∧ k < o + us.length then us[k - o]? else vs[k]? := by
 induction o with
 | zero =>
  intro vs k hl
  simp only [spliceV, Nat.zero_add] at hl ⊢
  by_cases hk : k < us.length
  · rw [List.getElem?_append_left hk, if_pos ⟨Nat.zero_le _, hk⟩, Nat.sub_zero]
  · rw [List.getElem?_append_right (by omega), if_neg (by omega), List.getElem?_drop]
    congr 1; omega
 | succ o ih =>
  intro vs k hl
  cases vs with
  | nil => simp at hl
  | cons v vs =>
   simp only [spliceV]
   cases k with
   | zero => simp
   | succ k =>
    simp only [List.getElem?_cons_succ]
    rw [ih vs k (by simp at hl; omega)]
    by_cases hc : o ≤ k ∧ k < o + us.length
    · rw [if_pos hc, if_pos (by omega), show k + 1 - (o + 1) = k - o from by omega]
    · rw [if_neg hc, if_neg (by omega)]
theorem fold_splice (off : Nat) : ∀ (us : List Value) (zs : List Value) (k : Nat), off + k + us.length ≤ zs.length → ((us.zipIdx k).foldl (fun cs (x : Value × Nat) => cs.setIfInBounds (off + x.2) x.1) (⟨zs⟩ : Array Value)) = ⟨spliceV zs (off + k) us⟩
 | [], zs, k, _ => by simp [splice_nil]
 | u :: us, zs, k, hk => by
  simp only [List.zipIdx_cons, List.foldl_cons]
  have : (⟨zs⟩ : Array Value).setIfInBounds (off + k) u = ⟨zs.set (off + k) u⟩ := by simp
  rw [this, fold_splice off us (zs.set (off + k) u) (k + 1) (by simp at hk ⊢; omega), show off + (k + 1) = (off + k) + 1 from by omega, splice_set _ _ _ _ (by simp at hk; omega)]
theorem Coll.get_some {c : Coll} {i j : Nat} {x : AV} (hx : (c.get i)[j]? = some x) : j < c.esz := by
 rw [← c.get_length i]; exact (List.getElem?_eq_some_iff.1 hx).1
theorem repE_one {x : AV} {u : Value} (hx : (∃ c : Coll, x = .coll c) ∨ x.isSc = true) (h : repE M x u) : u.oneCell' = true := by
 rcases hx with ⟨c, rfl⟩ | hs
 · obtain ⟨a, cap, rfl, _⟩ := h; rfl
 · cases x <;> simp [AV.isSc] at hs <;> simp only [repE, sc] at h <;> subst h <;> rfl
theorem Coll.get_cell {c : Coll} {i j : Nat} {x : AV} (hx : (c.get i)[j]? = some x) : (∃ c' : Coll, x = .coll c') ∨ x.isSc = true :=
 (c.k.enc_cell _ j x hx).imp (fun ⟨c, h, _⟩ => ⟨c, h⟩) id
theorem elems_one {c : Coll} {vs : List Value} (he : elems M c vs) : ∀ u ∈ vs.take (c.len * c.esz), u.oneCell' = true := by
 intro u hu
 obtain ⟨m, hm, hu⟩ := List.mem_iff_getElem.1 hu
 have hlt : m < c.len * c.esz := by simp at hm; omega
 have hp : 0 < c.esz := c.k.esz_pos
 have hi : m / c.esz < c.len := by rw [Nat.div_lt_iff_lt_mul hp]; exact hlt
 have hj : m % c.esz < (c.get (m / c.esz)).length := by rw [c.get_length]; exact Nat.mod_lt _ hp
 obtain ⟨u', h1, h2⟩ := he (m / c.esz) hi (m % c.esz) _ (List.getElem?_eq_getElem hj)
 have : m / c.esz * c.esz + m % c.esz = m := by rw [Nat.mul_comm]; exact Nat.div_add_mod _ _
 rw [this] at h1
 rw [List.getElem_take] at hu
 rw [List.getElem?_eq_getElem (by simp at hm; omega)] at h1
 injection h1 with h1
 rw [← hu, h1]
 exact repE_one (Coll.get_cell (List.getElem?_eq_getElem hj)) h2
def readsW (w : World) (M : Mem) (c : Coll) (b o : Nat) : Prop := ∀ (i : Nat), i < c.len → ∀ (j : Nat) (x : AV), (c.get i)[j]? = some x → ∃ u : Value, w.cell? ⟨b, o + i * c.esz + j, none⟩ = some u ∧ repE M x u
theorem readsW.row {c : Coll} {b o : Nat} (hr : readsW w M c b o) : ∃ news : List Value, news.length = c.len * c.esz ∧ (∀ m u, news[m]? = some u → w.cell? ⟨b, o + m, none⟩ = some u) ∧ elems M c news := by
 have hp : 0 < c.esz := c.k.esz_pos
 have key : ∀ m, m < c.len * c.esz → ∃ u, w.cell? ⟨b, o + m, none⟩ = some u := by
  intro m hlt
  have hi : m / c.esz < c.len := by rw [Nat.div_lt_iff_lt_mul hp]; exact hlt
  have hj : m % c.esz < (c.get (m / c.esz)).length := by rw [c.get_length]; exact Nat.mod_lt _ hp
  obtain ⟨u', h1, h2⟩ := hr (m / c.esz) hi (m % c.esz) _ (List.getElem?_eq_getElem hj)
  have : o + m / c.esz * c.esz + m % c.esz = o + m := by rw [Nat.add_assoc, Nat.mul_comm, Nat.div_add_mod]
  rw [this] at h1
  exact ⟨u', h1⟩
 refine ⟨(List.range (c.len * c.esz)).map fun m => (w.cell? ⟨b, o + m, none⟩).getD undef, by simp, ?_, ?_⟩
 · intro m u hm
   rw [List.getElem?_map] at hm
   cases hq : (List.range (c.len * c.esz))[m]? with
   | none => rw [hq] at hm; cases hm
   | some q =>
    rw [hq] at hm
    obtain ⟨hlt, rfl⟩ := List.getElem?_eq_some_iff.1 hq
    simp at hlt
    simp only [Option.map_some, Option.some.injEq, List.getElem_range] at hm
    obtain ⟨u', hu'⟩ := key m hlt
    rw [hu'] at hm ⊢
    rw [← hm]; rfl
 · intro i hi j x hx
   obtain ⟨u, h1, h2⟩ := hr i hi j x hx
   have hj := Coll.get_some hx
   have hlt : i * c.esz + j < c.len * c.esz := by
    have : (i + 1) * c.esz ≤ c.len * c.esz := Nat.mul_le_mul_right _ hi
    rw [Nat.add_mul] at this; omega
   refine ⟨u, ?_, h2⟩
   rw [List.getElem?_map, List.getElem?_range hlt]
   simp only [Option.map_some]
   rw [← Nat.add_assoc, h1]; rfl
theorem elems_append {c d c' : Coll} (hc : c.append d = some c') {vs us : List Value} (hl : vs.length = c.len * c.esz) (h1 : elems M c vs) (h2 : elems M d us) : elems M c' (vs ++ us) ∧ c'.len = c.len + d.len ∧ c'.k = c.k ∧ d.k = c.k := by
 obtain ⟨k, xs⟩ := c
 obtain ⟨k', ys⟩ := d
 unfold Coll.append at hc
 split at hc
 · rename_i hk
   simp only at hk
   subst hk
   injection hc with hc
   subst hc
   refine ⟨?_, by simp [Coll.len], rfl, rfl⟩
   intro i hi j x hx
   have hj := Coll.get_some hx
   simp only [Coll.len, Coll.esz, Coll.get] at *
   rcases Nat.lt_or_ge i xs.length with hlt | hge
   · have hx' : (k'.enc (xs.getD i default))[j]? = some x := by
       rw [← hx]; congr 2; simp only [List.getD_eq_getElem?_getD]; rw [List.getElem?_append_left hlt]
     obtain ⟨u, g1, g2⟩ := h1 i hlt j x hx'
     refine ⟨u, ?_, g2⟩
     simp only [Coll.esz] at g1 ⊢
     rw [List.getElem?_append_left (by exact (List.getElem?_eq_some_iff.1 g1).1)]
     exact g1
   · have hlt2 : i - xs.length < ys.length := by simp at hi; omega
     have hx' : (k'.enc (ys.getD (i - xs.length) default))[j]? = some x := by
      rw [← hx]; congr 2; simp only [List.getD_eq_getElem?_getD]; rw [List.getElem?_append_right hge]
     obtain ⟨u, g1, g2⟩ := h2 (i - xs.length) hlt2 j x hx'
     refine ⟨u, ?_, g2⟩
     simp only [Coll.esz] at g1 ⊢
     have e : i * k'.esz = xs.length * k'.esz + (i - xs.length) * k'.esz := by rw [← Nat.add_mul]; congr 1; omega
     rw [List.getElem?_append_right (by rw [hl]; omega), hl, ← g1]
     congr 1
     omega
 · cases hc
theorem elems_take {c : Coll} {vs us : List Value} (h : elems M c vs) (hs : ∀ m, m < c.len * c.esz → us[m]? = vs[m]?) : elems M c us := by
 intro i hi j x hx
 obtain ⟨u, h1, h2⟩ := h i hi j x hx
 have hj := Coll.get_some hx
 have hlt : i * c.esz + j < c.len * c.esz := by
  have : (i + 1) * c.esz ≤ c.len * c.esz := Nat.mul_le_mul_right _ hi
  rw [Nat.add_mul] at this; omega
 exact ⟨u, by rw [hs _ hlt]; exact h1, h2⟩

def Mem.told (M : Mem) (r n : Nat) (vs : List Value) : Mem := fun b o => if b = r ∧ o < n then vs[o]? else M b o
theorem Mem.told_le {M : Mem} {r n : Nat} {vs : List Value} (h : ∀ o v, o < n → M r o = some v → vs[o]? = some v) : M.le (M.told r n vs) := by
 intro b o v hv
 unfold Mem.told
 split
 · rename_i hc; obtain ⟨rfl, hc⟩ := hc; exact h o v hc hv
 · exact hv
theorem freeze_vec (H : SimH B w0 M0 h w ρ M) {id : Nat} {c : Coll} (ho : hget h id = .vec false c) : ∃ M', M.le M' ∧ SimH B w0 M0 (hset h id (.vec true c)) w ρ M' := by
 have hobj := H.obj id
 rw [ho] at hobj
 obtain ⟨hv, g1, g2⟩ := hobj
 rcases g2 with g2 | ⟨r, cap, vs, t, rfl, k2, k3, k4, k5, k6, k7, k8, _⟩
 · exact ⟨M, Mem.le_refl _, H.update id _ (fun _ _ => rfl) (Loc.le_refl _) (Mem.le_refl _) ⟨hv, g1, .inl g2⟩ (fun _ _ _ _ hr => ⟨hr, rfl, fun _ h => h⟩) (fun r i hr => H.own r i hr) H.mem (fun _ _ _ => rfl) (Keeps.refl _ _)⟩
 · have hle : M.le (M.told r (c.len * c.esz) vs) := Mem.told_le fun o v _ hv => by rw [k8 o (.inl rfl)] at hv; cases hv
   refine ⟨_, hle, H.update id _ (fun _ _ => rfl) (Loc.le_refl _) hle ?_ ?_ (fun r i hr => H.own r i hr) ?_ ?_ (Keeps.refl _ _)⟩
   · refine ⟨_, g1, .inr ⟨r, cap, vs, t, rfl, k2, k3, k4, k5, k6, elems_mono hle k7, fun off ho => ?_, fun _ off u ho hu => ?_⟩⟩
     · rcases ho with ho | ho
       · cases ho
       · unfold Mem.told; rw [if_neg (by omega)]; exact k8 off (.inl rfl)
     · unfold Mem.told; rw [if_pos ⟨rfl, ho⟩]; exact hu
   · intro i r' hne hd hr
     refine ⟨hr, rfl, fun off ho => ?_⟩
     unfold Mem.told
     rw [if_neg]
     · exact ho
     · rintro ⟨rfl, _⟩
       rw [k2] at hr
       injection hr with hr
       exact hne hr.symm
   · intro b o v hv
     unfold Mem.told at hv
     split at hv
     · rename_i hc; obtain ⟨rfl, _⟩ := hc; rw [cell_of_block k3]; exact hv
     · exact H.mem b o v hv
   · intro b o hb
     unfold Mem.told
     rw [if_neg]
     rintro ⟨rfl, _⟩
     exact (H.own _ _ k2).1 hb

theorem src_reads (H : SimH B w0 M0 h w ρ M) (hle : ∀ id, hget hr id ≠ .dead → hget h id = hget hr id) {k : Kind} {y : AV} {d : Coll} {v : Value} (hs : srcOf hr k y = some d) (hv : rep ρ M noG y v) :
  ∃ a cap, v = .slice a d.len cap ∧ (0 < d.len → ∃ b o, a = some ⟨b, o, none⟩ ∧ readsW w M d b o) := by
 unfold srcOf at hs
 split at hs
 · injection hs with hs; subst hs
   simp only [rep] at hv; subst hv
   exact ⟨none, 0, rfl, fun h => absurd h (Nat.lt_irrefl 0)⟩
 · injection hs with hs; subst hs
   simp only [rep] at hv
   obtain ⟨a, cap, rfl, _, h3⟩ := hv
   refine ⟨a, cap, rfl, fun h0 => ?_⟩
   obtain ⟨b, o, rfl, hrd⟩ := h3 h0
   refine ⟨b, o, rfl, fun i hi j x hx => ?_⟩
   obtain ⟨u, hu, hm⟩ := hrd i hi j x hx
   refine ⟨u, H.mem _ _ _ hu, ?_⟩
   cases x <;> first | exact hm | exact repC_down hm
 · rename_i id
   split at hs
   · rename_i f c hc
     injection hs with hs; subst hs
     have hobj := H.obj id
     rw [hle id (by rw [hc]; simp), hc] at hobj
     obtain ⟨hh, g1, g2⟩ := hobj
     simp only [rep] at hv
     have hv := hv.2
     rw [g1] at hv
     injection hv with hv
     injection hv with hv
     subst hv
     rcases g2 with ⟨rfl, g2⟩ | ⟨r, cap, vs, t, rfl, k2, k3, k4, k5, k6, k7, _⟩
     · exact ⟨none, 0, by rw [g2], fun h => by omega⟩
     · refine ⟨_, cap, rfl, fun _ => ⟨r, 0, rfl, fun i hi j x hx => ?_⟩⟩
       obtain ⟨u, hu, hm⟩ := k7 i hi j x hx
       exact ⟨u, by rw [cell_of_block k3, Nat.zero_add]; exact hu, hm⟩
   · cases hs
 · rename_i id esz lo hi
   split at hs
   · rename_i f c hc
     split at hs
     · rename_i he
       injection hs with hs; subst hs
       have hobj := H.obj id
       rw [hle id (by rw [hc]; simp), hc] at hobj
       obtain ⟨hh, g1, g2⟩ := hobj
       simp only [rep] at hv
       obtain ⟨hlo, hd, a, cap, e1, rfl, e3⟩ := hv
       rw [g1] at e1
       injection e1 with e1
       injection e1 with e1
       subst e1
       subst he
       rcases Nat.lt_or_ge lo hi with hlt | hge
       · obtain ⟨r, n, cap', rfl, hn, rfl⟩ := e3 hlt
         rcases g2 with ⟨g2, _⟩ | ⟨r', cap2, vs, t, e, k2, k3, k4, k5, k6, k7, _⟩
         · cases g2
         · injection e with e1 e2 e4
           injection e1 with e1
           injection e1 with e1
           subst e1; subst e2; subst e4
           have hlen : (c.sub lo hi).len = hi - lo := by simp [Coll.sub, Coll.len] at hn ⊢; omega
           refine ⟨_, cap, by rw [hlen], fun _ => ⟨r, lo * c.esz, rfl, fun i hi' j x hx => ?_⟩⟩
           have hx' : (c.get (lo + i))[j]? = some x := by
            rw [← hx]
            simp only [Coll.get, Coll.sub]
            congr 2
            simp only [List.getD_eq_getElem?_getD]
            rw [List.getElem?_drop, List.getElem?_take, if_pos (by omega)]
            rfl
           obtain ⟨u, hu, hm⟩ := k7 (lo + i) (by omega) j x hx'
           refine ⟨u, ?_, hm⟩
           rw [cell_of_block k3, ← hu, Nat.add_mul]
           rfl
       · have hlen : (c.sub lo hi).len = 0 := by simp [Coll.sub, Coll.len]; omega
         exact ⟨a, cap, by rw [hlen, show hi - lo = 0 from by omega], fun h => by omega⟩
     · cases hs
   · cases hs
 · cases hs
theorem src_of {tx e' : TypeId} (hk : P.underlying tx = some (.slice e')) {d : Coll} {v : Value} (hs : ∃ a cap, v = .slice a d.len cap ∧ (0 < d.len → ∃ b o, a = some ⟨b, o, none⟩ ∧ readsW w M d b o)) :
  ∃ news : List Value, Src P d.esz tx v d.len news w ∧ elems M d news ∧ news.length = d.len * d.esz := by
 obtain ⟨a, cap, rfl, hrd⟩ := hs
 rcases Nat.eq_zero_or_pos d.len with h0 | hp
 · refine ⟨[], ?_, fun i hi => by omega, by simp [h0]⟩
   rw [h0]
   cases a with
   | none => exact Src.ofNil w hk cap
   | some a => exact Src.ofSlice w hk a 0 cap [] (by simp) (by simp) (by simp)
 · obtain ⟨b, o, rfl, hrw⟩ := hrd hp
   obtain ⟨news, h1, h2, h3⟩ := hrw.row
   refine ⟨news, Src.ofSlice w hk ⟨b, o, none⟩ d.len cap news h1 (fun j u hj => by rw [Addr.add_lit]; exact h2 j u hj) fun u hu => ?_, h3, h1⟩
   have := elems_one h3 u
   rw [← h1, List.take_length] at this
   exact this hu
theorem strInts_length (s : ByteArray) : (strInts s).length = s.size := by unfold strInts; rw [List.length_map, Array.length_toList]; rfl
theorem str_elems (s : ByteArray) : elems M ⟨.int .u8, strInts s⟩ (byteCells s) := by
 intro i hi j x hx
 have hi' : i < s.data.toList.length := by have : i < (strInts s).length := hi; rw [strInts, List.length_map] at this; exact this
 have hx' : ([AV.int .u8 ((strInts s).getD i default)] : List AV)[j]? = some x := hx
 match j, hx' with
 | 0, hx' =>
  have e : x = .int .u8 ((strInts s).getD i default) := by simpa using hx'.symm
  subst e
  refine ⟨.int .u8 ((s.data.toList[i].toNat : Nat) : Int), ?_, ?_⟩
  · show (byteCells s)[i * 1 + 0]? = _
    rw [Nat.mul_one, Nat.add_zero, byteCells, List.getElem?_map, List.getElem?_eq_getElem hi']
    rfl
  · have e2 : (strInts s).getD i default = ((s.data.toList[i].toNat : Nat) : Int) := by
      rw [List.getD_eq_getElem?_getD, strInts, List.getElem?_map, List.getElem?_eq_getElem hi']
      rfl
    rw [e2]
    rfl
 | j + 1, hx' => simp at hx'
theorem src_any (H : SimH B w0 M0 h w ρ M) (hle : ∀ id, hget hr id ≠ .dead → hget h id = hget hr id) {k : Kind} {tx : TypeId} {y : AV} {d : Coll} {v : Value} (hs : srcAny P hr k tx y = some d) (hv : rep ρ M noG y v) :
  ∃ news : List Value, Src P d.esz tx v d.len news w ∧ elems M d news ∧ news.length = d.len * d.esz := by
 unfold srcAny at hs
 split at hs
 · rename_i e hk
   exact src_of hk (src_reads H hle hs hv)
 · rename_i hk
   split at hs
   · rename_i s
     injection hs with hs
     subst hs
     simp only [rep] at hv
     subst hv
     refine ⟨byteCells s, ?_, str_elems s, ?_⟩
     · have : (Coll.len ⟨.int .u8, strInts s⟩) = s.size := strInts_length s
       rw [this]
       exact Src.ofString w hk s
     · rw [byteCells_length]
       show s.size = (strInts s).length * 1
       rw [strInts_length, Nat.mul_one]
   · cases hs
 · cases hs
end
end Go.Eng
end
section
namespace Go.Eng
open Go.RowKit (Below)

section
variable {P : Program} {B : Nat → Prop} {w0 w : World} {M0 M : Mem} {h hr : List AObj} {ρ : Loc}
theorem nextslicecap_le {n c : Nat} (h : c < n) : Builtin.nextslicecap n c ≤ 2 * n := by
 unfold Builtin.nextslicecap
 split
 · omega
 · split
   · omega
   · have key : ∀ (r c : Nat), 256 ≤ c → c < n → Builtin.growBy n r c ≤ 2 * n := by
       intro r
       induction r with
       | zero => intro c _ hc; simp only [Builtin.growBy]; omega
       | succ r ih =>
        intro c h1 hc
        simp only [Builtin.growBy]
        rw [if_neg (by omega)]
        by_cases h2 : c + (c + 768) / 4 < n
        · exact ih _ (by omega) h2
        · cases r with
          | zero => simp only [Builtin.growBy]; omega
          | succ r => simp only [Builtin.growBy]; rw [if_pos (by omega)]; omega
     exact key 4 c (by omega) h
structure Hdr (ρ : Loc) (M : Mem) (w : World) (id : Option Nat) (f : Bool) (c : Coll) (v : Value) : Prop where
 ok : (v = .slice none 0 0 ∧ c.len = 0) ∨ ∃ r cap vs t i, id = some i ∧ v = .slice (some ⟨r, 0, none⟩) c.len cap ∧ ρ.own r = some i ∧ w.heap[r]? = some (.cells ⟨vs⟩ t (0, 0)) ∧
  vs.length = cap * c.esz ∧ c.len ≤ cap ∧ cap ≤ maxLen ∧ elems M c vs ∧ (∀ off, (f = false ∨ c.len * c.esz ≤ off) → M r off = none) ∧ (f = true → ∀ off u, off < c.len * c.esz → vs[off]? = some u → M r off = some u)
theorem base_hdr (H : SimH B w0 M0 h w ρ M) (hle : ∀ id, hget hr id ≠ .dead → hget h id = hget hr id) {k : Kind} {m f : Bool} {x : AV} {b : Option Nat} {c : Coll} {v : Value} (hb : baseOf hr k m x = some (b, f, c)) (hv : rep ρ M noG x v) :
  Hdr ρ M w b f c v ∧ ∀ i, b = some i → hget h i = .vec f c := by
 unfold baseOf at hb
 split at hb
 · simp only [Option.some.injEq, Prod.mk.injEq] at hb
   obtain ⟨rfl, rfl, rfl⟩ := hb
   simp only [rep] at hv
   exact ⟨⟨.inl ⟨hv, rfl⟩⟩, fun i h => by cases h⟩
 · rename_i id
   split at hb
   · rename_i f' c' hc
     simp only [Option.some.injEq, Prod.mk.injEq] at hb
     obtain ⟨rfl, rfl, rfl⟩ := hb
     have ho := hle id (by rw [hc]; simp)
     rw [hc] at ho
     have hobj := H.obj id
     rw [ho] at hobj
     obtain ⟨hh, g1, g2⟩ := hobj
     simp only [rep] at hv
     have hv := hv.2
     rw [g1] at hv
     injection hv with hv
     injection hv with hv
     subst hv
     refine ⟨⟨?_⟩, fun i hi => by injection hi with hi; subst hi; exact ho⟩
     rcases g2 with g2 | ⟨r, cap, vs, t, g2⟩
     · exact .inl g2
     · exact .inr ⟨r, cap, vs, t, id, rfl, g2⟩
   · cases hb
 · cases hb
theorem applyEff_dead (H : SimH B w0 M0 h w ρ M) (b : Option Nat) : SimH B w0 M0 (applyEff h (deadOf b)) w ρ M := by
 cases b with
 | none => exact H
 | some i => exact H.kill i
theorem hget_dead {b : Option Nat} {i : Nat} (hb : b = some i) : hget (applyEff h (deadOf b)) i = .dead := by
 subst hb
 simp only [deadOf, applyEff, List.foldl_cons, List.foldl_nil]
 rw [hget_hset, if_pos rfl]

theorem run_append_vec (H : SimH B w0 M0 h w ρ M) {t tx ty e : TypeId} {i : TypeInfo} {z : Value} (ht : P.underlying t = some (.slice e)) (hi : P.info? e = some i) (hz : i.zero = some z)
  {c d c' : Coll} (hc : c.append d = some c') (hsz : i.size = c.esz) (hzs : z.cells.size = c.esz) {b : Option Nat} {f : Bool} {v u : Value} (hh : Hdr ρ M w b f c v)
  (hs : ∃ news : List Value, Src P d.esz tx u d.len news w ∧ elems M d news ∧ news.length = d.len * d.esz)
  (hby : (c.len + d.len) * i.bytes ≤ bytesLim) (hml : c.len + d.len ≤ maxLen) (nid : Nat) (hid : ρ nid = none) :
  ∃ v' w' ρ' M', (Builtin.append_ #[t, tx] ty #[v, u]).run P w = .ok v' w' ∧ ρ.only ρ' (deadOf b ++ [(nid, .vec f c')]) ∧ M.le M' ∧ SimH B w0 M0 (applyEff h (deadOf b ++ [(nid, .vec f c')])) w' ρ' M' ∧ rep ρ' M' noG (.vec nid) v' := by
 have hlim : bytesLim = 140737488355328 := rfl
 have hmx : maxLen = 9223372036854775807 := by decide
 obtain ⟨news, hsrc, hnews, hnl⟩ := hs
 have hde : d.esz = c.esz := by
  have := (elems_append (M := M) (vs := []) (us := news) hc)
  unfold Coll.append at hc
  split at hc
  · rename_i hk; simp [Coll.esz, hk]
  · cases hc
 rw [hde] at hsrc hnl
 have hsrc' : Src P i.size tx u d.len news w := by rw [hsz]; exact hsrc
 have Hd := applyEff_dead H b
 have happ : applyEff h (deadOf b ++ [(nid, .vec f c')]) = hset (applyEff h (deadOf b)) nid (.vec f c') := by simp [applyEff]
 rw [happ]
 have hmem : (nid, AObj.vec f c') ∈ deadOf b ++ [(nid, .vec f c')] := by simp
 have hlenc : c'.len = c.len + d.len ∧ c'.k = c.k := by
  unfold Coll.append at hc
  split at hc
  · injection hc with hc; subst hc
    rename_i hk
    refine ⟨?_, rfl⟩
    obtain ⟨k, xs⟩ := c; obtain ⟨k', ys⟩ := d
    simp only at hk; subst hk
    simp [Coll.len]
  · cases hc
 have hesz : c'.esz = c.esz := by simp [Coll.esz, hlenc.2]

 have grow : ∀ (base : Option Addr) (cap : Nat) (olds : List Value), v = .slice base c.len cap → cap < c.len + d.len → olds.length = c.len * c.esz → elems M c olds →
   (Builtin.firstCells i.size c.len (.slice base c.len cap)).run P w.drew = .ok olds.toArray w.drew →
   ∃ v' w' ρ' M', (Builtin.append_ #[t, tx] ty #[v, u]).run P w = .ok v' w' ∧ ρ.only ρ' (deadOf b ++ [(nid, .vec f c')]) ∧ M.le M' ∧ SimH B w0 M0 (hset (applyEff h (deadOf b)) nid (.vec f c')) w' ρ' M' ∧ rep ρ' M' noG (.vec nid) v' := by
  intro base cap olds hv hcap hol hoe hfc
  subst hv
  have hfit : Builtin.nextslicecap (c.len + d.len) cap * i.bytes ≤ 281474976710656 := by
   have h1 := nextslicecap_le hcap
   have h2 : Builtin.nextslicecap (c.len + d.len) cap * i.bytes ≤ 2 * (c.len + d.len) * i.bytes := Nat.mul_le_mul_right _ h1
   rw [Nat.mul_assoc] at h2
   omega
  have hrun := run_append_grow_src (P := P) w t tx ty e i z ht hi hz base c.len cap olds hfc u d.len news hsrc' hcap (by omega) hfit
  have hge := grownCap_ge w (c.len + d.len) cap e
  have hgm := grownCap_le_maxLen w (c.len + d.len) cap e hml
  generalize grownCap w (c.len + d.len) cap e = nc at hrun hge hgm
  obtain ⟨hea, _, _, _⟩ := elems_append hc hol hoe hnews
  have Hw := Hd.drew
  generalize hvs : ((olds ++ news).toArray ++ Builtin.zeroCells z.cells (nc - (c.len + d.len))).toList = vs at *
  have hcells : (olds ++ news).toArray ++ Builtin.zeroCells z.cells (nc - (c.len + d.len)) = ⟨vs⟩ := by rw [← hvs]
  rw [hcells] at hrun
  have hvl : vs.length = nc * c.esz := by
   rw [← hvs]
   simp only [Array.toList_append, List.length_append, Array.length_toList, size_zeroCells, hzs, hol, hnl, ← Nat.add_mul]
   congr 1; omega
  have hpre : ∀ m, m < c'.len * c'.esz → vs[m]? = (olds ++ news)[m]? := by
   intro m hm
   rw [← hvs, Array.toList_append, List.getElem?_append_left]
   rw [hlenc.1, hesz, Nat.add_mul] at hm
   simp [hol, hnl]; omega
  have hev := elems_take hea hpre
  have hfr : ∀ off, M w.heap.size off = none := fun off => Mem.none_new H (Nat.le_refl _) off
  have hnB : ¬ B w.heap.size := fun hb => Nat.lt_irrefl _ (H.size _ hb)
  have hnew : (w.drew.alloc (.cells ⟨vs⟩ e)).heap[w.heap.size]? = some (.cells ⟨vs⟩ e (0, 0)) := heap_alloc_new w.drew _
  obtain ⟨M', hM', hMl, hMo, hMi⟩ : ∃ M', M' = (if f then M.told w.heap.size (c'.len * c'.esz) vs else M) ∧ M.le M' ∧ (∀ b o, b ≠ w.heap.size → M' b o = M b o) ∧ (∀ o v, M' w.heap.size o = some v → vs[o]? = some v ∧ f = true ∧ o < c'.len * c'.esz) := by
   refine ⟨_, rfl, ?_, ?_, ?_⟩
   · split
     · exact Mem.told_le fun o v _ hv => by rw [hfr o] at hv; cases hv
     · exact Mem.le_refl _
   · intro b o hb; split
     · unfold Mem.told; rw [if_neg (fun hc => hb hc.1)]
     · rfl
   · intro o v hv; split at hv
     · rename_i hf
       unfold Mem.told at hv
       split at hv
       · rename_i hc; exact ⟨hv, hf, hc.2⟩
       · rw [hfr o] at hv; cases hv
     · rw [hfr o] at hv; cases hv
  refine ⟨_, _, ρ.put nid (.hdr (.slice (some ⟨w.heap.size, 0, none⟩) (c.len + d.len) nc)) w.heap.size, M', hrun, Loc.only_put hid _ _ hmem, hMl, ?_, ?_⟩
  · refine Hd.take nid hid _ _ w.heap.size (fun i hi => absurd (Hd.own _ _ hi).2 (Nat.lt_irrefl _)) hnB (by simp) (fun k _ hk => Below.heap_alloc w.drew _ k hk) ((Keeps.refl _ _).drew.alloc H.size _) hMl hMo ?_ ?_
    · intro o v hv; rw [cell_of_block hnew]; exact (hMi o v hv).1
    · refine ⟨.slice (some ⟨w.heap.size, 0, none⟩) (c.len + d.len) nc, by simp [Loc.put], .inr ⟨w.heap.size, nc, vs, e, by rw [hlenc.1], by simp [Loc.put], hnew, by rw [hesz]; exact hvl, by rw [hlenc.1]; exact hge, hgm, elems_mono hMl hev, ?_, ?_⟩⟩
      · intro off ho
        cases hm : M' w.heap.size off with
        | none => rfl
        | some v =>
         obtain ⟨_, h2, h3⟩ := hMi off v hm
         rcases ho with ho | ho
         · rw [h2] at ho; cases ho
         · omega
      · intro hf off u' ho hu'
        rw [hM', if_pos hf]
        unfold Mem.told
        rw [if_pos ⟨rfl, ho⟩]
        exact hu'
  · simp only [rep]
    exact ⟨⟨_, _, _, rfl⟩, by simp [Loc.put]⟩
 rcases hh.ok with ⟨rfl, h0⟩ | ⟨r, cap, vs, ct, ib, hib, rfl, k2, k3, k4, k5, k6, k7, k8, k9⟩
 · rcases Nat.eq_zero_or_pos d.len with hd0 | hdp
   ·
    refine ⟨.slice none 0 0, w, ρ.put0 nid (.hdr (.slice none 0 0)), M, ?_, Loc.only_put0 hid _ _ hmem, Mem.le_refl _, ?_, ?_⟩
    · rw [hd0] at hsrc'
      have h1 := hsrc'.cells
      have h2 := hsrc'.len
      have hn0 : news = [] := List.eq_nil_of_length_eq_zero (by rw [hnl, hd0]; simp)
      rcases hsrc'.kind with ⟨e', hk⟩ | hk <;> simp [Builtin.append_, run_underlying ht, run_underlying hk, sizeOf, typeInfo, hi, h2, h1]
    · exact Hd.update nid _ (fun i hi => by simp [Loc.put0, hi]) (Loc.le_put0 hid) (Mem.le_refl _) ⟨.slice none 0 0, by simp [Loc.put0], .inl ⟨rfl, by rw [hlenc.1]; omega⟩⟩ (fun i r _ _ hr => ⟨hr, rfl, fun _ h => h⟩) (fun r i hr => Hd.own r i hr) Hd.mem (fun _ _ _ => rfl) (Keeps.refl _ _)
    · simp only [rep]
      exact ⟨⟨_, _, _, rfl⟩, by simp [Loc.put0]⟩
   · have hce : elems M c [] := fun i hi => by omega
     exact grow none 0 [] (by rw [h0]) (by omega) (by rw [h0]; simp) hce (by rw [h0]; exact run_firstCells_none _ _ _ _ _)
 · by_cases hroom : c.len + d.len ≤ cap
   ·
    have hrl := (Array.getElem?_eq_some_iff.1 k3).1
    have hnB : ¬ B r := (H.own _ _ k2).1
    have hfit : c.len * c.esz + news.length ≤ vs.length := by rw [hnl, k4, ← Nat.add_mul]; exact Nat.mul_le_mul_right _ hroom
    have hst := run_storeCells (P := P) (r := r) (o := c.len * c.esz) news vs 0 w k3 (by simpa using hfit) hsrc'.one
    have hrun : (Builtin.append_ #[t, tx] ty #[.slice (some ⟨r, 0, none⟩) c.len cap, u]).run P w = .ok (.slice (some ⟨r, 0, none⟩) (c.len + d.len) cap) (putCells w r (spliceV vs (c.len * c.esz) news) ct) := by
     have hsc := hsrc'.cells
     have hsl := hsrc'.len
     rw [hsz] at hsc
     simp only [Nat.add_zero] at hst
     rcases hsrc'.kind with ⟨e', hk⟩ | hk <;> simp [Builtin.append_, run_underlying ht, run_underlying hk, sizeOf, typeInfo, hi, hsl, hroom, hsz, hsc, Addr.add_lit, hst]
    have hsv : ∀ m, (spliceV vs (c.len * c.esz) news)[m]? = if c.len * c.esz ≤ m ∧ m < c.len * c.esz + news.length then news[m - c.len * c.esz]? else vs[m]? := fun m => spliceV_get _ _ _ m hfit
    have hvl := spliceV_length (c.len * c.esz) vs news hfit
    generalize spliceV vs (c.len * c.esz) news = us at *
    have hnew : (putCells w r us ct).heap[r]? = some (.cells ⟨us⟩ ct (0, 0)) := putCells_at hrl
    obtain ⟨hea, _, _, _⟩ := elems_append (vs := vs.take (c.len * c.esz)) hc (by rw [List.length_take, k4, Nat.min_eq_left (Nat.mul_le_mul_right _ k5)]) (elems_take k7 fun m hm => by rw [List.getElem?_take, if_pos hm]) hnews
    have htl : (vs.take (c.len * c.esz)).length = c.len * c.esz := by rw [List.length_take, k4, Nat.min_eq_left (Nat.mul_le_mul_right _ k5)]
    have hpre : ∀ m, m < c'.len * c'.esz → us[m]? = (vs.take (c.len * c.esz) ++ news)[m]? := by
     intro m hm
     rw [hlenc.1, hesz, Nat.add_mul, ← hnl] at hm
     rw [hsv m]
     by_cases hlo : c.len * c.esz ≤ m
     · rw [if_pos ⟨hlo, hm⟩, List.getElem?_append_right (by omega), htl]
     · rw [if_neg (by omega), List.getElem?_append_left (by omega), List.getElem?_take, if_pos (by omega)]
    have hev := elems_take hea hpre
    have hNl : c'.len * c'.esz = c.len * c.esz + news.length := by rw [hlenc.1, hesz, Nat.add_mul, hnl]
    obtain ⟨M', hM', hMl, hMo, hMi⟩ : ∃ M', M' = (if f then M.told r (c'.len * c'.esz) us else M) ∧ M.le M' ∧ (∀ b o, b ≠ r → M' b o = M b o) ∧ (∀ o v, M' r o = some v → us[o]? = some v ∧ f = true ∧ o < c'.len * c'.esz) := by
     refine ⟨_, rfl, ?_, ?_, ?_⟩
     · split
       · rename_i hf
         refine Mem.told_le fun o v _ hv => ?_
         have hlt : o < c.len * c.esz := by
          rcases Nat.lt_or_ge o (c.len * c.esz) with h | h
          · exact h
          · rw [k8 o (.inr h)] at hv; cases hv
         rw [hsv o, if_neg (by omega)]
         have := H.mem _ _ _ hv
         rw [cell_of_block k3] at this
         exact this
       · exact Mem.le_refl _
     · intro b o hb; split
       · unfold Mem.told; rw [if_neg (fun hc => hb hc.1)]
       · rfl
     · intro o v hv; split at hv
       · rename_i hf
         unfold Mem.told at hv
         split at hv
         · rename_i hc; exact ⟨hv, hf, hc.2⟩
         · rename_i hc
           rw [k8 o (.inr (by have : ¬ o < c'.len * c'.esz := fun hl => hc ⟨rfl, hl⟩; omega))] at hv; cases hv
       · rename_i hf
         rw [k8 o (.inl (by simpa using hf))] at hv; cases hv
    refine ⟨_, _, ρ.put nid (.hdr (.slice (some ⟨r, 0, none⟩) (c.len + d.len) cap)) r, M', hrun, Loc.only_put hid _ _ hmem, hMl, ?_, ?_⟩
    · refine Hd.take nid hid _ _ r (fun i hi => by
        rw [k2] at hi
        injection hi with hi
        subst hi
        exact hget_dead hib) hnB (by rw [putCells_size]; exact hrl) (fun k hk _ => putCells_ne hk) (putCells_below hnB) hMl hMo ?_ ?_
      · intro o v hv; rw [cell_of_block hnew]; exact (hMi o v hv).1
      · refine ⟨.slice (some ⟨r, 0, none⟩) (c.len + d.len) cap, by simp [Loc.put], .inr ⟨r, cap, us, ct, by rw [hlenc.1], by simp [Loc.put], hnew, by rw [hesz, hvl]; exact k4, by rw [hlenc.1]; exact hroom, k6, elems_mono hMl hev, ?_, ?_⟩⟩
        · intro off ho
          cases hm : M' r off with
          | none => rfl
          | some v =>
           obtain ⟨_, h2, h3⟩ := hMi off v hm
           rcases ho with ho | ho
           · rw [h2] at ho; cases ho
           · omega
        · intro hf off u' ho hu'
          rw [hM', if_pos hf]
          unfold Mem.told
          rw [if_pos ⟨rfl, ho⟩]
          exact hu'
    · simp only [rep]
      exact ⟨⟨_, _, _, rfl⟩, by simp [Loc.put]⟩
   · have htl : (vs.take (c.len * c.esz)).length = c.len * c.esz := by rw [List.length_take, k4, Nat.min_eq_left (Nat.mul_le_mul_right _ k5)]
     exact grow (some ⟨r, 0, none⟩) cap (vs.take (c.len * c.esz)) rfl (by omega) htl (elems_take k7 fun m hm => by rw [List.getElem?_take, if_pos hm])
      (run_firstCells_some _ i.size c.len ⟨r, 0, none⟩ c.len cap _ (by rw [htl, hsz]) (fun j u' hj => by
        have hlt : j < c.len * c.esz := by have := (List.getElem?_eq_some_iff.1 hj).1; omega
        rw [Addr.add_lit, World.cell?_drew, cell_of_block k3, Nat.zero_add]
        rw [List.getElem?_take, if_pos hlt] at hj
        exact hj))
end
end Go.Eng
end
