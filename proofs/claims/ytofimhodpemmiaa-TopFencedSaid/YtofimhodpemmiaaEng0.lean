/- The engine, part 0: abstract values, what they stand for in memory, and what a state stands for. -/
import Derived.Below
import Derived.Orders
import Derived.Scope
import Derived.Tactics
import Derived.WalkKit
import Derived.KernelRfl
namespace Go.Eng
open Go.RowKit (Below)

/-- api.Object. -/
structure XObj where
  kind : Int
  name : ByteArray
  version : Int
  born : Int
  deleting : Bool
  hold : Bool
  cls : ByteArray
  size : Int
  got : Int
  mode : Int
  keep : Bool
  wait : Bool
  zone : ByteArray
  node : ByteArray
  claim : ByteArray
  volume : ByteArray
  source : ByteArray
  phase : Int
  num : Int
  tag : Int
  deriving Inhabited

/-- api.Call. -/
structure XCall where
  verb : Int
  target : ByteArray
  num : Int
  size : Int
  zone : ByteArray
  node : ByteArray
  source : ByteArray
  deriving Inhabited

/-- wharfingerlaw09.Ask. -/
structure XAsk where
  who : ByteArray
  now : Int
  span : Int
  deriving Inhabited

/-- topo.Label. -/
structure XLabel where
  key : ByteArray
  value : ByteArray
  deriving Inhabited

/-- topo.Term. -/
structure XTerm where
  key : ByteArray
  values : List ByteArray
  deriving Inhabited

/-- api.Zone. -/
structure XZone where
  name : ByteArray
  room : Int
  deriving Inhabited

/-- api.DriverVolume. -/
structure XVol where
  name : ByteArray
  size : Int
  zone : ByteArray
  tag : Int
  nodes : List ByteArray
  deriving Inhabited

/-- api.DriverSnap. -/
structure XSnap where
  name : ByteArray
  size : Int
  tag : Int
  deriving Inhabited

/-- A slice that is read, by its elements. -/
inductive Coll where
  | ints (k : IntKind) (xs : List Int)
  | bools (xs : List Bool)
  | strs (xs : List ByteArray)
  | objs (xs : List XObj)
  | calls (xs : List XCall)
  | asks (xs : List XAsk)
  | labels (xs : List XLabel)
  | terms (xs : List XTerm)
  | zones (xs : List XZone)
  | vols (xs : List XVol)
  | snaps (xs : List XSnap)
  deriving Inhabited

inductive AV where
  | unk
  | int (k : IntKind) (n : Int)
  | bool (b : Bool)
  | str (s : ByteArray)
  | nilp
  | ptr (id off : Nat)
  | ep (c : Coll) (i off : Nat)
  | agg (cs : List AV)
  | tup (cs : List AV)
  | nils
  | vec (id : Nat)
  | coll (c : Coll)
  | fn (f : FuncId) (cap : List AV)
  | nilf
  | map (id : Nat)
  | nilm
  | nili
  | iface (t : TypeId) (x : AV)
  | grd (j : Nat) (want : Bool) (x : AV)
  deriving Inhabited

def encObj (o : XObj) : List AV :=
  [.int .u8 o.kind, .str o.name, .int .u64 o.version, .int .u64 o.born, .bool o.deleting, .bool o.hold, .str o.cls, .int .i64 o.size, .int .i64 o.got, .int .u8 o.mode,
   .bool o.keep, .bool o.wait, .str o.zone, .str o.node, .str o.claim, .str o.volume, .str o.source, .int .u8 o.phase, .int .u64 o.num, .int .u64 o.tag]
def encCall (c : XCall) : List AV := [.int .u8 c.verb, .str c.target, .int .u64 c.num, .int .i64 c.size, .str c.zone, .str c.node, .str c.source]
def encAsk (x : XAsk) : List AV := [.str x.who, .int .u64 x.now, .int .u64 x.span]
def encLabel (x : XLabel) : List AV := [.str x.key, .str x.value]
def encTerm (x : XTerm) : List AV := [.str x.key, .coll (.strs x.values)]
def encZone (x : XZone) : List AV := [.str x.name, .int .i64 x.room]
def encVol (x : XVol) : List AV := [.str x.name, .int .i64 x.size, .str x.zone, .int .u64 x.tag, .coll (.strs x.nodes)]
def encSnap (x : XSnap) : List AV := [.str x.name, .int .i64 x.size, .int .u64 x.tag]

def Coll.len : Coll → Nat
  | .ints _ xs => xs.length | .bools xs => xs.length | .strs xs => xs.length | .objs xs => xs.length | .calls xs => xs.length | .asks xs => xs.length
  | .labels xs => xs.length | .terms xs => xs.length | .zones xs => xs.length | .vols xs => xs.length | .snaps xs => xs.length
/-- How many cells an element has. -/
def Coll.esz : Coll → Nat
  | .ints .. => 1 | .bools _ => 1 | .strs _ => 1 | .objs _ => 20 | .calls _ => 7 | .asks _ => 3 | .labels _ => 2 | .terms _ => 2 | .zones _ => 2 | .vols _ => 5 | .snaps _ => 3
/-- Is an element a struct? -/
def Coll.isAgg : Coll → Bool
  | .ints .. => false | .bools _ => false | .strs _ => false | _ => true
def Coll.get (i : Nat) : Coll → List AV
  | .ints k xs => [.int k (xs.getD i default)]
  | .bools xs => [.bool (xs.getD i default)]
  | .strs xs => [.str (xs.getD i default)]
  | .objs xs => encObj (xs.getD i default)
  | .calls xs => encCall (xs.getD i default)
  | .asks xs => encAsk (xs.getD i default)
  | .labels xs => encLabel (xs.getD i default)
  | .terms xs => encTerm (xs.getD i default)
  | .zones xs => encZone (xs.getD i default)
  | .vols xs => encVol (xs.getD i default)
  | .snaps xs => encSnap (xs.getD i default)
theorem Coll.get_length (c : Coll) (i : Nat) : (c.get i).length = c.esz := by cases c <;> rfl

/-- What is known of cells that nobody writes any more. -/
def Mem := Nat → Nat → Option Value
def Mem.le (M M' : Mem) : Prop := ∀ b o v, M b o = some v → M' b o = some v
theorem Mem.le_refl (M : Mem) : M.le M := fun _ _ _ h => h
theorem Mem.le_trans {A B C : Mem} (h : A.le B) (k : B.le C) : A.le C := fun b o v e => k b o v (h b o v e)

def sc : AV → Value → Prop
  | .int k n, v => v = .int k n
  | .bool b, v => v = .bool b
  | .str s, v => v = .string s
  | _, _ => False

/-- The elements of c lie from (b, o) on. -/
def readsAt (M : Mem) (E : Coll → Value → Prop) (c : Coll) (b o : Nat) : Prop :=
  ∀ i, i < c.len → ∀ j x, (c.get i)[j]? = some x → ∃ u, M b (o + i * c.esz + j) = some u ∧ (match x with | .coll c' => E c' u | x => sc x u)
def repC (M : Mem) : Nat → Coll → Value → Prop
  | 0, _, _ => False
  | n + 1, c, v => ∃ a cap, v = .slice a c.len cap ∧ c.len ≤ cap ∧ (0 < c.len → ∃ b o, a = some ⟨b, o, none⟩ ∧ readsAt M (repC M n) c b o)
theorem readsAt_mono {M M' : Mem} {E E' : Coll → Value → Prop} (h : M.le M') (hE : ∀ c v, E c v → E' c v) {c : Coll} {b o : Nat} (hr : readsAt M E c b o) : readsAt M' E' c b o := by
  intro i hi j x hx
  obtain ⟨u, hu, hm⟩ := hr i hi j x hx
  refine ⟨u, h _ _ _ hu, ?_⟩
  cases x <;> first | exact hm | exact hE _ _ hm
theorem repC_mono {M M' : Mem} (h : M.le M') : ∀ (n : Nat) (c : Coll) (v : Value), repC M n c v → repC M' n c v
  | 0, _, _, hf => hf.elim
  | n + 1, _, _, ⟨a, cap, hv, hl, hr⟩ => ⟨a, cap, hv, hl, fun h0 => let ⟨b, o, ha, hh⟩ := hr h0; ⟨b, o, ha, readsAt_mono h (repC_mono h n) hh⟩⟩
theorem repC_up {M : Mem} : ∀ (n : Nat) (c : Coll) (v : Value), repC M n c v → repC M (n + 1) c v
  | 0, _, _, hf => hf.elim
  | n + 1, _, _, ⟨a, cap, hv, hl, hr⟩ => ⟨a, cap, hv, hl, fun h0 => let ⟨b, o, ha, hh⟩ := hr h0; ⟨b, o, ha, readsAt_mono (Mem.le_refl M) (repC_up n) hh⟩⟩
/-- The depth of slices in slices that is looked into. -/
abbrev DEP : Nat := 3

/-- Where an object of the state lies: a block of its own, or a slice's header. -/
inductive RL where
  | blk (r : Nat)
  | hdr (v : Value)
def Loc := Nat → Option RL
def Loc.le (ρ ρ' : Loc) : Prop := ∀ id r, ρ id = some r → ρ' id = some r
theorem Loc.le_refl (ρ : Loc) : ρ.le ρ := fun _ _ h => h
theorem Loc.le_trans {A B C : Loc} (h : A.le B) (k : B.le C) : A.le C := fun i r e => k i r (h i r e)

mutual
def rep (ρ : Loc) (M : Mem) (G : Nat → Bool → Prop) : AV → Value → Prop
  | .unk, _ => True
  | .int k n, v => v = .int k n
  | .bool b, v => v = .bool b
  | .str s, v => v = .string s
  | .nilp, v => v = .pointer none
  | .ptr id off, v => ∃ r, ρ id = some (.blk r) ∧ v = .pointer (some ⟨r, off, none⟩)
  | .ep c i off, v => i < c.len ∧ off ≤ c.esz ∧ ∃ b o, v = .pointer (some ⟨b, o + i * c.esz + off, none⟩) ∧ readsAt M (repC M DEP) c b o
  | .agg cs, v => ∃ vs, v = .agg ⟨vs⟩ ∧ repL ρ M G cs vs
  | .tup cs, v => ∃ vs, v = .tuple ⟨vs⟩ ∧ repL ρ M G cs vs
  | .nils, v => v = .slice none 0 0
  | .vec id, v => (∃ b n c, v = .slice b n c) ∧ ρ id = some (.hdr v)
  | .coll c, v => repC M (DEP + 1) c v
  | .fn f cap, v => ∃ vs, v = .func (.func f) #[] ⟨vs⟩ ∧ repL ρ M G cap vs
  | .nilf, v => v = .nilFunc
  | .map id, v => ∃ r, ρ id = some (.blk r) ∧ v = .map (some r)
  | .nilm, v => v = .map none
  | .nili, v => v = .nilIface
  | .iface t x, v => ∃ u, v = .iface t u ∧ rep ρ M G x u
  | .grd j want x, v => G j want → rep ρ M G x v
def repL (ρ : Loc) (M : Mem) (G : Nat → Bool → Prop) : List AV → List Value → Prop
  | [], [] => True
  | x :: xs, v :: vs => rep ρ M G x v ∧ repL ρ M G xs vs
  | _, _ => False
end
/-- No guard has been passed. -/
abbrev noG : Nat → Bool → Prop := fun _ _ => False

mutual
theorem rep_mono {ρ ρ' : Loc} {M M' : Mem} {G G' : Nat → Bool → Prop} (hρ : ρ.le ρ') (hM : M.le M') (hG : ∀ j b, G' j b → G j b) : ∀ (x : AV) (v : Value), rep ρ M G x v → rep ρ' M' G' x v
  | .unk, _, _ => by simp [rep]
  | .int _ _, _, h => by simpa [rep] using h
  | .bool _, _, h => by simpa [rep] using h
  | .str _, _, h => by simpa [rep] using h
  | .nilp, _, h => by simpa [rep] using h
  | .ptr id off, v, h => by simp only [rep] at h ⊢; obtain ⟨r, h1, h2⟩ := h; exact ⟨r, hρ _ _ h1, h2⟩
  | .ep c i off, v, h => by simp only [rep] at h ⊢; obtain ⟨h1, h1', b, o, h2, h3⟩ := h; exact ⟨h1, h1', b, o, h2, readsAt_mono hM (repC_mono hM _) h3⟩
  | .agg cs, v, h => by simp only [rep] at h ⊢; obtain ⟨vs, h1, h2⟩ := h; exact ⟨vs, h1, repL_mono hρ hM hG cs vs h2⟩
  | .tup cs, v, h => by simp only [rep] at h ⊢; obtain ⟨vs, h1, h2⟩ := h; exact ⟨vs, h1, repL_mono hρ hM hG cs vs h2⟩
  | .nils, _, h => by simpa [rep] using h
  | .vec id, v, h => by simp only [rep] at h ⊢; exact ⟨h.1, hρ _ _ h.2⟩
  | .coll c, v, h => by simp only [rep] at h ⊢; exact repC_mono hM _ _ _ h
  | .fn f cap, v, h => by simp only [rep] at h ⊢; obtain ⟨vs, h1, h2⟩ := h; exact ⟨vs, h1, repL_mono hρ hM hG cap vs h2⟩
  | .nilf, _, h => by simpa [rep] using h
  | .map id, v, h => by simp only [rep] at h ⊢; obtain ⟨r, h1, h2⟩ := h; exact ⟨r, hρ _ _ h1, h2⟩
  | .nilm, _, h => by simpa [rep] using h
  | .nili, _, h => by simpa [rep] using h
  | .iface t x, v, h => by simp only [rep] at h ⊢; obtain ⟨u, h1, h2⟩ := h; exact ⟨u, h1, rep_mono hρ hM hG x u h2⟩
  | .grd j w x, v, h => by simp only [rep] at h ⊢; exact fun hg => rep_mono hρ hM hG x v (h (hG _ _ hg))
theorem repL_mono {ρ ρ' : Loc} {M M' : Mem} {G G' : Nat → Bool → Prop} (hρ : ρ.le ρ') (hM : M.le M') (hG : ∀ j b, G' j b → G j b) : ∀ (xs : List AV) (vs : List Value), repL ρ M G xs vs → repL ρ' M' G' xs vs
  | [], [], _ => by simp [repL]
  | x :: xs, v :: vs, h => by simp only [repL] at h ⊢; exact ⟨rep_mono hρ hM hG x v h.1, repL_mono hρ hM hG xs vs h.2⟩
  | [], _ :: _, h => by simp [repL] at h
  | _ :: _, [], h => by simp [repL] at h
end
end Go.Eng
