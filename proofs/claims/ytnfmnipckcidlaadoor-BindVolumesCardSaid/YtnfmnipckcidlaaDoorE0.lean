/- The engine, part 0: abstract values, what they stand for in memory. -/
import Derived.Below
import Derived.Orders
import Derived.Scope
import Derived.Tactics
import Derived.WalkKit
import Derived.KernelRfl
set_option linter.unusedVariables false
set_option linter.unusedSimpArgs false
namespace Go.Eng
open Go.RowKit (Below)

/-- api.Object. -/
structure XObj where
  kind : Int
  name : ByteArray
  version : Int
  born : Int
  deleting : Bool
  hold : Bool
  cls : ByteArray
  size : Int
  got : Int
  mode : Int
  keep : Bool
  wait : Bool
  zone : ByteArray
  node : ByteArray
  claim : ByteArray
  volume : ByteArray
  source : ByteArray
  phase : Int
  num : Int
  tag : Int
  deriving Inhabited

/-- api.Call. -/
structure XCall where
  verb : Int
  target : ByteArray
  num : Int
  size : Int
  zone : ByteArray
  node : ByteArray
  source : ByteArray
  deriving Inhabited

/-- wharfingerlaw09.Ask. -/
structure XAsk where
  who : ByteArray
  now : Int
  span : Int
  deriving Inhabited

/-- topo.Label. -/
structure XLabel where
  key : ByteArray
  value : ByteArray
  deriving Inhabited

/-- topo.Term. -/
structure XTerm where
  key : ByteArray
  values : List ByteArray
  deriving Inhabited

/-- api.Zone. -/
structure XZone where
  name : ByteArray
  room : Int
  deriving Inhabited

/-- api.DriverVolume. -/
structure XVol where
  name : ByteArray
  size : Int
  zone : ByteArray
  tag : Int
  nodes : List ByteArray
  deriving Inhabited

/-- api.DriverSnap. -/
structure XSnap where
  name : ByteArray
  size : Int
  tag : Int
  deriving Inhabited

/-- driver.snap; a past: call and result. -/
structure XSn where
  size : Int
  tag : Int
  deriving Inhabited
/-- api.Result. -/
structure XRes where
  err : Int
  size : Int
  zone : ByteArray
  tag : Int
  deriving Inhabited
/-- A call and its result. -/
structure XDone where
  c : XCall
  r : XRes
  deriving Inhabited
/-- wharfingerlaw10.Deed. -/
structure XDeed where
  c : XCall
  tag : Int
  deriving Inhabited
/-- wharfingerlaw11.Deed. -/
structure XDeed2 where
  c : XCall
  o : Int
  tag : Int
  again : Bool
  i : Int
  deriving Inhabited
/-- api.Key. -/
structure XKey where
  kind : Int
  name : ByteArray
  deriving Inhabited
/-- driver.target. -/
structure XTgt where
  snap : Bool
  name : ByteArray
  deriving Inhabited
/-- api.Act. -/
structure XAct where
  act : Int
  obj : XObj
  call : XCall
  deriving Inhabited
/-- api.Event. -/
structure XEvent where
  version : Int
  gone : Bool
  obj : XObj
  deriving Inhabited

/-- The kinds of elements. -/
inductive Kind where
  | int (k : IntKind)
  | bool
  | str
  | obj
  | call
  | ask
  | label
  | term
  | zone
  | vol
  | snap
  | sn
  | done
  | deed
  | deed2
  | key
  | tgt
  | event
  | strs
  | labels
  | terms
  deriving DecidableEq, Inhabited
abbrev Kind.Ty : Kind → Type
  | .int _ => Int
  | .bool => Bool
  | .str => ByteArray
  | .obj => XObj
  | .call => XCall
  | .ask => XAsk
  | .label => XLabel
  | .term => XTerm
  | .zone => XZone
  | .vol => XVol
  | .snap => XSnap
  | .sn => XSn
  | .done => XDone
  | .deed => XDeed
  | .deed2 => XDeed2
  | .key => XKey
  | .tgt => XTgt
  | .event => XEvent
  | .strs => List ByteArray
  | .labels => List XLabel
  | .terms => List XTerm
instance Kind.inh : (k : Kind) → Inhabited k.Ty
  | .int _ => ⟨(0 : Int)⟩
  | .bool => ⟨false⟩
  | .str => ⟨(default : ByteArray)⟩
  | .obj => ⟨(default : XObj)⟩
  | .call => ⟨(default : XCall)⟩
  | .ask => ⟨(default : XAsk)⟩
  | .label => ⟨(default : XLabel)⟩
  | .term => ⟨(default : XTerm)⟩
  | .zone => ⟨(default : XZone)⟩
  | .vol => ⟨(default : XVol)⟩
  | .snap => ⟨(default : XSnap)⟩
  | .sn => ⟨(default : XSn)⟩
  | .done => ⟨(default : XDone)⟩
  | .deed => ⟨(default : XDeed)⟩
  | .deed2 => ⟨(default : XDeed2)⟩
  | .key => ⟨(default : XKey)⟩
  | .tgt => ⟨(default : XTgt)⟩
  | .event => ⟨(default : XEvent)⟩
  | .strs => ⟨([] : List ByteArray)⟩
  | .labels => ⟨([] : List XLabel)⟩
  | .terms => ⟨([] : List XTerm)⟩

/-- A slice by its elements. -/
structure Coll where
  k : Kind
  xs : List k.Ty
instance : Inhabited Coll := ⟨⟨.bool, []⟩⟩

inductive AV where
  | unk
  | int (k : IntKind) (n : Int)
  | bool (b : Bool)
  | str (s : ByteArray)
  | nilp
  | ptr (id off : Nat)
  | ep (c : Coll) (i off : Nat)
  | evp (id esz i off : Nat)
  | agg (cs : List AV)
  | tup (cs : List AV)
  | nils
  | vec (id : Nat)
  | vsub (id esz lo hi : Nat)
  | coll (c : Coll)
  | fn (f : FuncId) (cap : List AV)
  | yld (id : Nat)
  /-- what a string's iterator gave: is there one; where; which -/
  | nxt (b : Bool) (i r : Int)
  | nilf
  | map (id : Nat)
  | nilm
  | nili
  | iface (t : TypeId) (x : AV)
  | grd (j : Nat) (want : Bool) (x : AV)
  deriving Inhabited

def encObj (o : XObj) : List AV :=
  [.int .u8 o.kind, .str o.name, .int .u64 o.version, .int .u64 o.born, .bool o.deleting, .bool o.hold, .str o.cls, .int .i64 o.size, .int .i64 o.got, .int .u8 o.mode,
   .bool o.keep, .bool o.wait, .str o.zone, .str o.node, .str o.claim, .str o.volume, .str o.source, .int .u8 o.phase, .int .u64 o.num, .int .u64 o.tag]
def encCall (c : XCall) : List AV := [.int .u8 c.verb, .str c.target, .int .u64 c.num, .int .i64 c.size, .str c.zone, .str c.node, .str c.source]
def encAsk (x : XAsk) : List AV := [.str x.who, .int .u64 x.now, .int .u64 x.span]
def encLabel (x : XLabel) : List AV := [.str x.key, .str x.value]
def encTerm (x : XTerm) : List AV := [.str x.key, .coll ⟨.str, x.values⟩]
def encZone (x : XZone) : List AV := [.str x.name, .int .i64 x.room]
def encVol (x : XVol) : List AV := [.str x.name, .int .i64 x.size, .str x.zone, .int .u64 x.tag, .coll ⟨.str, x.nodes⟩]
def encSnap (x : XSnap) : List AV := [.str x.name, .int .i64 x.size, .int .u64 x.tag]
def encSn (x : XSn) : List AV := [.int .i64 x.size, .int .u64 x.tag]
def encRes (x : XRes) : List AV := [.int .i64 x.err, .int .i64 x.size, .str x.zone, .int .u64 x.tag]
def encDone (x : XDone) : List AV := [.int .u8 x.c.verb, .str x.c.target, .int .u64 x.c.num, .int .i64 x.c.size, .str x.c.zone, .str x.c.node, .str x.c.source, .int .i64 x.r.err, .int .i64 x.r.size, .str x.r.zone, .int .u64 x.r.tag]
def encDeed (x : XDeed) : List AV := [.int .u8 x.c.verb, .str x.c.target, .int .u64 x.c.num, .int .i64 x.c.size, .str x.c.zone, .str x.c.node, .str x.c.source, .int .u64 x.tag]
def encDeed2 (x : XDeed2) : List AV := [.int .u8 x.c.verb, .str x.c.target, .int .u64 x.c.num, .int .i64 x.c.size, .str x.c.zone, .str x.c.node, .str x.c.source, .int .u8 x.o, .int .u64 x.tag, .bool x.again, .int .i64 x.i]
def encKey (x : XKey) : List AV := [.int .u8 x.kind, .str x.name]
def encTgt (x : XTgt) : List AV := [.bool x.snap, .str x.name]
def encEvent (x : XEvent) : List AV :=
  [.int .u64 x.version, .bool x.gone, .int .u8 x.obj.kind, .str x.obj.name, .int .u64 x.obj.version, .int .u64 x.obj.born, .bool x.obj.deleting, .bool x.obj.hold, .str x.obj.cls, .int .i64 x.obj.size, .int .i64 x.obj.got, .int .u8 x.obj.mode,
   .bool x.obj.keep, .bool x.obj.wait, .str x.obj.zone, .str x.obj.node, .str x.obj.claim, .str x.obj.volume, .str x.obj.source, .int .u8 x.obj.phase, .int .u64 x.obj.num, .int .u64 x.obj.tag]
def encAct (x : XAct) : List AV :=
  [.int .u8 x.act, .int .u8 x.obj.kind, .str x.obj.name, .int .u64 x.obj.version, .int .u64 x.obj.born, .bool x.obj.deleting, .bool x.obj.hold, .str x.obj.cls, .int .i64 x.obj.size, .int .i64 x.obj.got, .int .u8 x.obj.mode,
   .bool x.obj.keep, .bool x.obj.wait, .str x.obj.zone, .str x.obj.node, .str x.obj.claim, .str x.obj.volume, .str x.obj.source, .int .u8 x.obj.phase, .int .u64 x.obj.num, .int .u64 x.obj.tag,
   .int .u8 x.call.verb, .str x.call.target, .int .u64 x.call.num, .int .i64 x.call.size, .str x.call.zone, .str x.call.node, .str x.call.source]

/-- How many cells an element has. -/
def Kind.esz : Kind → Nat
  | .int _ => 1 | .bool => 1 | .str => 1 | .obj => 20 | .call => 7 | .ask => 3 | .label => 2 | .term => 2 | .zone => 2 | .vol => 5 | .snap => 3
  | .sn => 2 | .done => 11 | .deed => 8 | .deed2 => 11 | .key => 2 | .tgt => 2 | .event => 22 | .strs => 1 | .labels => 1 | .terms => 1
/-- Is an element a struct? -/
def Kind.isAgg : Kind → Bool
  | .int _ => false | .bool => false | .str => false | .strs => false | .labels => false | .terms => false | _ => true
/-- No slice lies in it. -/
def Kind.flat : Kind → Bool
  | .term => false | .vol => false | .strs => false | .labels => false | .terms => false | _ => true
def Kind.enc : (k : Kind) → k.Ty → List AV
  | .int k, x => [.int k x]
  | .bool, x => [.bool x]
  | .str, x => [.str x]
  | .obj, x => encObj x
  | .call, x => encCall x
  | .ask, x => encAsk x
  | .label, x => encLabel x
  | .term, x => encTerm x
  | .zone, x => encZone x
  | .vol, x => encVol x
  | .snap, x => encSnap x
  | .sn, x => encSn x
  | .done, x => encDone x
  | .deed, x => encDeed x
  | .deed2, x => encDeed2 x
  | .key, x => encKey x
  | .tgt, x => encTgt x
  | .event, x => encEvent x
  | .strs, x => [.coll ⟨.str, x⟩]
  | .labels, x => [.coll ⟨.label, x⟩]
  | .terms, x => [.coll ⟨.term, x⟩]
theorem Kind.enc_length (k : Kind) (x : k.Ty) : (k.enc x).length = k.esz := by cases k <;> rfl
theorem Kind.esz_pos (k : Kind) : 0 < k.esz := by cases k <;> simp [Kind.esz]
def Coll.len (c : Coll) : Nat := c.xs.length
def Coll.esz (c : Coll) : Nat := c.k.esz
def Coll.isAgg (c : Coll) : Bool := c.k.isAgg
def Coll.get (i : Nat) (c : Coll) : List AV := c.k.enc (c.xs.getD i default)
theorem Coll.get_length (c : Coll) (i : Nat) : (c.get i).length = c.esz := Kind.enc_length _ _
/-- A cell of an element that holds a slice. -/
def AV.isColl : AV → Bool
  | .coll _ => true
  | _ => false
/-- A cell that is a number, a Bool, a text. -/
def AV.isSc : AV → Bool
  | .int .. => true | .bool _ => true | .str _ => true | _ => false
/-- How deep slices lie in one. -/
def Kind.depth : Kind → Nat
  | .term => 1 | .vol => 1 | .strs => 1 | .labels => 1 | .terms => 2 | _ => 0
theorem Kind.enc_cell (k : Kind) (x : k.Ty) (j : Nat) (y : AV) (h : (k.enc x)[j]? = some y) : (∃ c : Coll, y = .coll c ∧ c.k.depth < k.depth) ∨ y.isSc = true := by
  have key : ∀ z ∈ k.enc x, (∃ c : Coll, z = .coll c ∧ c.k.depth < k.depth) ∨ z.isSc = true := by
    cases k <;> simp [Kind.enc, encObj, encCall, encAsk, encLabel, encTerm, encZone, encVol, encSnap, encSn, encDone, encDeed, encDeed2, encKey, encTgt, encEvent, AV.isSc, Kind.depth]
  exact key y (List.mem_of_getElem? h)

/-- What is known of cells that nobody writes any more. -/
def Mem := Nat → Nat → Option Value
def Mem.le (M M' : Mem) : Prop := ∀ b o v, M b o = some v → M' b o = some v
theorem Mem.le_refl (M : Mem) : M.le M := fun _ _ _ h => h
theorem Mem.le_trans {A B C : Mem} (h : A.le B) (k : B.le C) : A.le C := fun b o v e => k b o v (h b o v e)

def sc : AV → Value → Prop
  | .int k n, v => v = .int k n
  | .bool b, v => v = .bool b
  | .str s, v => v = .string s
  | _, _ => False

/-- The elements of c lie from (b, o) on. -/
def readsAt (M : Mem) (E : Coll → Value → Prop) (c : Coll) (b o : Nat) : Prop :=
  ∀ i, i < c.len → ∀ j x, (c.get i)[j]? = some x → ∃ u, M b (o + i * c.esz + j) = some u ∧ (match x with | .coll c' => E c' u | x => sc x u)
def repC (M : Mem) : Nat → Coll → Value → Prop
  | 0, _, _ => False
  | n + 1, c, v => ∃ a cap, v = .slice a c.len cap ∧ c.len ≤ cap ∧ (0 < c.len → ∃ b o, a = some ⟨b, o, none⟩ ∧ readsAt M (repC M n) c b o)
theorem readsAt_mono {M M' : Mem} {E E' : Coll → Value → Prop} (h : M.le M') (hE : ∀ c v, E c v → E' c v) {c : Coll} {b o : Nat} (hr : readsAt M E c b o) : readsAt M' E' c b o := by
  intro i hi j x hx
  obtain ⟨u, hu, hm⟩ := hr i hi j x hx
  refine ⟨u, h _ _ _ hu, ?_⟩
  cases x <;> first | exact hm | exact hE _ _ hm
theorem repC_mono {M M' : Mem} (h : M.le M') : ∀ (n : Nat) (c : Coll) (v : Value), repC M n c v → repC M' n c v
  | 0, _, _, hf => hf.elim
  | n + 1, _, _, ⟨a, cap, hv, hl, hr⟩ => ⟨a, cap, hv, hl, fun h0 => let ⟨b, o, ha, hh⟩ := hr h0; ⟨b, o, ha, readsAt_mono h (repC_mono h n) hh⟩⟩
theorem repC_up {M : Mem} : ∀ (n : Nat) (c : Coll) (v : Value), repC M n c v → repC M (n + 1) c v
  | 0, _, _, hf => hf.elim
  | n + 1, _, _, ⟨a, cap, hv, hl, hr⟩ => ⟨a, cap, hv, hl, fun h0 => let ⟨b, o, ha, hh⟩ := hr h0; ⟨b, o, ha, readsAt_mono (Mem.le_refl M) (repC_up n) hh⟩⟩
/-- How deep is told is all one, from the kind's own depth on. -/
theorem repC_any {M : Mem} : ∀ (n m : Nat) (c : Coll) (v : Value), c.k.depth < n → c.k.depth < m → repC M n c v → repC M m c v := by
  intro n
  induction n with
  | zero => intro m c v h; omega
  | succ n ih =>
    intro m c v h1 h2 h
    cases m with
    | zero => omega
    | succ m =>
      obtain ⟨a, cap, hv, hl, hr⟩ := h
      refine ⟨a, cap, hv, hl, fun h0 => ?_⟩
      obtain ⟨b, o, ha, hh⟩ := hr h0
      refine ⟨b, o, ha, fun i hi j x hx => ?_⟩
      obtain ⟨u, hu, hm⟩ := hh i hi j x hx
      refine ⟨u, hu, ?_⟩
      rcases Kind.enc_cell _ _ _ _ hx with ⟨c', rfl, hd⟩ | hs
      · exact ih m c' u (by omega) (by omega) hm
      · cases x <;> simp [AV.isSc] at hs <;> exact hm
/-- The depth of slices in slices that is looked into. -/
abbrev DEP : Nat := 3
theorem Kind.depth_le (k : Kind) : k.depth ≤ 2 := by cases k <;> simp [Kind.depth]
theorem repC_down {M : Mem} {c : Coll} {v : Value} (h : repC M (DEP + 1) c v) : repC M DEP c v := repC_any _ _ _ _ (by have := c.k.depth_le; show _ < 4; omega) (by have := c.k.depth_le; show _ < 3; omega) h

/-- Where an object of the state lies: a block of its own, or a slice's header. -/
inductive RL where
  | blk (r : Nat)
  | hdr (v : Value)
/-- Where the objects lie; whose each block is. -/
structure Loc where
  pl : Nat → Option RL
  own : Nat → Option Nat
instance : CoeFun Loc fun _ => Nat → Option RL := ⟨Loc.pl⟩
def Loc.le (ρ ρ' : Loc) : Prop := ∀ id r, ρ id = some r → ρ' id = some r
theorem Loc.le_refl (ρ : Loc) : ρ.le ρ := fun _ _ h => h
theorem Loc.le_trans {A B C : Loc} (h : A.le B) (k : B.le C) : A.le C := fun i r e => k i r (h i r e)

mutual
def rep (ρ : Loc) (M : Mem) (G : Nat → Bool → Prop) : AV → Value → Prop
  | .unk, _ => True
  | .int k n, v => v = .int k n
  | .bool b, v => v = .bool b
  | .str s, v => v = .string s
  | .nilp, v => v = .pointer none
  | .ptr id off, v => ∃ r, ρ id = some (.blk r) ∧ v = .pointer (some ⟨r, off, none⟩)
  | .ep c i off, v => i < c.len ∧ off ≤ c.esz ∧ ∃ b o, v = .pointer (some ⟨b, o + i * c.esz + off, none⟩) ∧ readsAt M (repC M DEP) c b o
  | .evp id esz i off, v => off ≤ esz ∧ ∃ r n cap, ρ id = some (.hdr (.slice (some ⟨r, 0, none⟩) n cap)) ∧ i < n ∧ v = .pointer (some ⟨r, i * esz + off, none⟩)
  | .agg cs, v => ∃ vs, v = .agg ⟨vs⟩ ∧ repL ρ M G cs vs
  | .tup cs, v => ∃ vs, v = .tuple ⟨vs⟩ ∧ repL ρ M G cs vs
  | .nils, v => v = .slice none 0 0
  | .vec id, v => (∃ b n c, v = .slice b n c) ∧ ρ id = some (.hdr v)
  | .vsub id esz lo hi, v => lo ≤ hi ∧ ∃ hd a cap, ρ id = some (.hdr hd) ∧ v = .slice a (hi - lo) cap ∧ (lo < hi → ∃ r n cap', hd = .slice (some ⟨r, 0, none⟩) n cap' ∧ hi ≤ n ∧ a = some ⟨r, lo * esz, none⟩)
  | .coll c, v => repC M (DEP + 1) c v
  | .fn f cap, v => ∃ vs, v = .func (.func f) #[] ⟨vs⟩ ∧ repL ρ M G cap vs
  | .yld id, v => ∃ r, ρ id = some (.blk r) ∧ v = .func (.yield r) #[] #[]
  | .nxt b i r, v => v = if b then .tuple #[.bool true, .int .i64 i, .int .i32 r] else .tuple #[.bool false]
  | .nilf, v => v = .nilFunc
  | .map id, v => ∃ r, ρ id = some (.blk r) ∧ v = .map (some r)
  | .nilm, v => v = .map none
  | .nili, v => v = .nilIface
  | .iface t x, v => ∃ u, v = .iface t u ∧ rep ρ M G x u
  | .grd j want x, v => G j want → rep ρ M G x v
def repL (ρ : Loc) (M : Mem) (G : Nat → Bool → Prop) : List AV → List Value → Prop
  | [], [] => True
  | x :: xs, v :: vs => rep ρ M G x v ∧ repL ρ M G xs vs
  | _, _ => False
end
/-- No guard has been passed. -/
abbrev noG : Nat → Bool → Prop := fun _ _ => False

mutual
theorem rep_mono {ρ ρ' : Loc} {M M' : Mem} {G G' : Nat → Bool → Prop} (hρ : ρ.le ρ') (hM : M.le M') (hG : ∀ j b, G' j b → G j b) : ∀ (x : AV) (v : Value), rep ρ M G x v → rep ρ' M' G' x v
  | .unk, _, _ => by simp [rep]
  | .int _ _, _, h => by simpa [rep] using h
  | .bool _, _, h => by simpa [rep] using h
  | .str _, _, h => by simpa [rep] using h
  | .nilp, _, h => by simpa [rep] using h
  | .ptr id off, v, h => by simp only [rep] at h ⊢; obtain ⟨r, h1, h2⟩ := h; exact ⟨r, hρ _ _ h1, h2⟩
  | .ep c i off, v, h => by simp only [rep] at h ⊢; obtain ⟨h1, h1', b, o, h2, h3⟩ := h; exact ⟨h1, h1', b, o, h2, readsAt_mono hM (repC_mono hM _) h3⟩
  | .evp id esz i off, v, h => by simp only [rep] at h ⊢; obtain ⟨h0, r, n, cap, h1, h2, h3⟩ := h; exact ⟨h0, r, n, cap, hρ _ _ h1, h2, h3⟩
  | .agg cs, v, h => by simp only [rep] at h ⊢; obtain ⟨vs, h1, h2⟩ := h; exact ⟨vs, h1, repL_mono hρ hM hG cs vs h2⟩
  | .tup cs, v, h => by simp only [rep] at h ⊢; obtain ⟨vs, h1, h2⟩ := h; exact ⟨vs, h1, repL_mono hρ hM hG cs vs h2⟩
  | .nils, _, h => by simpa [rep] using h
  | .vec id, v, h => by simp only [rep] at h ⊢; exact ⟨h.1, hρ _ _ h.2⟩
  | .vsub id esz lo hi, v, h => by simp only [rep] at h ⊢; obtain ⟨h0, hd, a, cap, h1, h2, h3⟩ := h; exact ⟨h0, hd, a, cap, hρ _ _ h1, h2, h3⟩
  | .coll c, v, h => by simp only [rep] at h ⊢; exact repC_mono hM _ _ _ h
  | .fn f cap, v, h => by simp only [rep] at h ⊢; obtain ⟨vs, h1, h2⟩ := h; exact ⟨vs, h1, repL_mono hρ hM hG cap vs h2⟩
  | .yld id, v, h => by simp only [rep] at h ⊢; obtain ⟨r, h1, h2⟩ := h; exact ⟨r, hρ _ _ h1, h2⟩
  | .nxt _ _ _, _, h => by simpa only [rep] using h
  | .nilf, _, h => by simpa [rep] using h
  | .map id, v, h => by simp only [rep] at h ⊢; obtain ⟨r, h1, h2⟩ := h; exact ⟨r, hρ _ _ h1, h2⟩
  | .nilm, _, h => by simpa [rep] using h
  | .nili, _, h => by simpa [rep] using h
  | .iface t x, v, h => by simp only [rep] at h ⊢; obtain ⟨u, h1, h2⟩ := h; exact ⟨u, h1, rep_mono hρ hM hG x u h2⟩
  | .grd j w x, v, h => by simp only [rep] at h ⊢; exact fun hg => rep_mono hρ hM hG x v (h (hG _ _ hg))
theorem repL_mono {ρ ρ' : Loc} {M M' : Mem} {G G' : Nat → Bool → Prop} (hρ : ρ.le ρ') (hM : M.le M') (hG : ∀ j b, G' j b → G j b) : ∀ (xs : List AV) (vs : List Value), repL ρ M G xs vs → repL ρ' M' G' xs vs
  | [], [], _ => by simp [repL]
  | x :: xs, v :: vs, h => by simp only [repL] at h ⊢; exact ⟨rep_mono hρ hM hG x v h.1, repL_mono hρ hM hG xs vs h.2⟩
  | [], _ :: _, h => by simp [repL] at h
  | _ :: _, [], h => by simp [repL] at h
end
end Go.Eng
