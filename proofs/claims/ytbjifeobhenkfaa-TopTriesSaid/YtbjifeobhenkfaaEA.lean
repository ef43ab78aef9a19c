/- The engine: parts 0 1. -/
import Derived.Below
import Derived.Orders
import Derived.Scope
import Derived.Tactics
import Derived.WalkKit
import Derived.KernelRfl
set_option linter.unusedVariables false
set_option linter.unusedSimpArgs false
section
namespace Go.Eng
open Go.RowKit (Below)

structure XObj where
 kind : Int
 name : ByteArray
 version : Int
 born : Int
 deleting : Bool
 hold : Bool
 cls : ByteArray
 size : Int
 got : Int
 mode : Int
 keep : Bool
 wait : Bool
 zone : ByteArray
 node : ByteArray
 claim : ByteArray
 volume : ByteArray
 source : ByteArray
 phase : Int
 num : Int
 tag : Int
 deriving Inhabited

structure XCall where
 verb : Int
 target : ByteArray
 num : Int
 size : Int
 zone : ByteArray
 node : ByteArray
 source : ByteArray
 deriving Inhabited

structure XAsk where
 who : ByteArray
 now : Int
 span : Int
 deriving Inhabited

structure XLabel where
 key : ByteArray
 value : ByteArray
 deriving Inhabited

structure XTerm where
 key : ByteArray
 values : List ByteArray
 deriving Inhabited

structure XZone where
 name : ByteArray
 room : Int
 deriving Inhabited

structure XVol where
 name : ByteArray
 size : Int
 zone : ByteArray
 tag : Int
 nodes : List ByteArray
 deriving Inhabited

structure XSnap where
 name : ByteArray
 size : Int
 tag : Int
 deriving Inhabited

structure XSn where
 size : Int
 tag : Int
 deriving Inhabited
structure XRes where
 err : Int
 size : Int
 zone : ByteArray
 tag : Int
 deriving Inhabited
structure XDv where
 size : Int
 zone : ByteArray
 tag : Int
 spot : Option Nat
 deriving Inhabited
structure XVn where
 size : Int
 zone : ByteArray
 tag : Int
 nodes : List (ByteArray × Bool)
 deriving Inhabited
structure XDone where
 c : XCall
 r : XRes
 deriving Inhabited
structure XDeed where
 c : XCall
 tag : Int
 deriving Inhabited
structure XDeed2 where
 c : XCall
 o : Int
 tag : Int
 again : Bool
 i : Int
 deriving Inhabited
structure XKey where
 kind : Int
 name : ByteArray
 deriving Inhabited
structure XTgt where
 snap : Bool
 name : ByteArray
 deriving Inhabited
structure XAct where
 act : Int
 obj : XObj
 call : XCall
 deriving Inhabited
structure XEvent where
 version : Int
 gone : Bool
 obj : XObj
 deriving Inhabited

inductive Kind where
 | int (k : IntKind)
 | bool
 | str
 | obj
 | call
 | ask
 | label
 | term
 | zone
 | vol
 | snap
 | sn
 | done
 | deed
 | deed2
 | key
 | tgt
 | event
 | strs
 | labels
 | terms
 | dv
 deriving DecidableEq, Inhabited
abbrev Kind.Ty : Kind → Type
 | .int _ => Int
 | .bool => Bool
 | .str => ByteArray
 | .obj => XObj
 | .call => XCall
 | .ask => XAsk
 | .label => XLabel
 | .term => XTerm
 | .zone => XZone
 | .vol => XVol
 | .snap => XSnap
 | .sn => XSn
 | .done => XDone
 | .deed => XDeed
 | .deed2 => XDeed2
 | .key => XKey
 | .tgt => XTgt
 | .event => XEvent
 | .strs => List ByteArray
 | .labels => List XLabel
 | .terms => List XTerm
 | .dv => XDv
instance Kind.inh : (k : Kind) → Inhabited k.Ty
 | .int _ => ⟨(0 : Int)⟩
 | .bool => ⟨false⟩
 | .str => ⟨(default : ByteArray)⟩
 | .obj => ⟨(default : XObj)⟩
 | .call => ⟨(default : XCall)⟩
 | .ask => ⟨(default : XAsk)⟩
 | .label => ⟨(default : XLabel)⟩
 | .term => ⟨(default : XTerm)⟩
 | .zone => ⟨(default : XZone)⟩
 | .vol => ⟨(default : XVol)⟩
 | .snap => ⟨(default : XSnap)⟩
 | .sn => ⟨(default : XSn)⟩
 | .done => ⟨(default : XDone)⟩
 | .deed => ⟨(default : XDeed)⟩
 | .deed2 => ⟨(default : XDeed2)⟩
 | .key => ⟨(default : XKey)⟩
 | .tgt => ⟨(default : XTgt)⟩
 | .event => ⟨(default : XEvent)⟩
 | .strs => ⟨([] : List ByteArray)⟩
 | .labels => ⟨([] : List XLabel)⟩
 | .terms => ⟨([] : List XTerm)⟩
 | .dv => ⟨(default : XDv)⟩

structure Coll where
 k : Kind
 xs : List k.Ty
instance : Inhabited Coll := ⟨⟨.bool, []⟩⟩

inductive AV where
 | unk
 | int (k : IntKind) (n : Int)
 | bool (b : Bool)
 | str (s : ByteArray)
 | nilp
 | ptr (id off : Nat)
 | ep (c : Coll) (i off : Nat)
 | evp (id esz i off : Nat)
 | agg (cs : List AV)
 | tup (cs : List AV)
 | nils
 | vec (id : Nat)
 | vsub (id esz lo hi : Nat)
 | coll (c : Coll)
 | fn (f : FuncId) (cap : List AV)
 | yld (id : Nat)

 | nxt (b : Bool) (i r : Int)
 | nilf
 | map (id : Nat)
 | nilm
 | nili
 | iface (t : TypeId) (x : AV)
 | grd (j : Nat) (want : Bool) (x : AV)

 | href (a : Option Nat)

 | mapq (b : Bool) (id n : Nat)
 deriving Inhabited

def encObj (o : XObj) : List AV :=
 [.int .u8 o.kind, .str o.name, .int .u64 o.version, .int .u64 o.born, .bool o.deleting, .bool o.hold, .str o.cls, .int .i64 o.size, .int .i64 o.got, .int .u8 o.mode,
  .bool o.keep, .bool o.wait, .str o.zone, .str o.node, .str o.claim, .str o.volume, .str o.source, .int .u8 o.phase, .int .u64 o.num, .int .u64 o.tag]
def encCall (c : XCall) : List AV := [.int .u8 c.verb, .str c.target, .int .u64 c.num, .int .i64 c.size, .str c.zone, .str c.node, .str c.source]
def encAsk (x : XAsk) : List AV := [.str x.who, .int .u64 x.now, .int .u64 x.span]
def encLabel (x : XLabel) : List AV := [.str x.key, .str x.value]
def encTerm (x : XTerm) : List AV := [.str x.key, .coll ⟨.str, x.values⟩]
def encZone (x : XZone) : List AV := [.str x.name, .int .i64 x.room]
def encVol (x : XVol) : List AV := [.str x.name, .int .i64 x.size, .str x.zone, .int .u64 x.tag, .coll ⟨.str, x.nodes⟩]
def encSnap (x : XSnap) : List AV := [.str x.name, .int .i64 x.size, .int .u64 x.tag]
def encSn (x : XSn) : List AV := [.int .i64 x.size, .int .u64 x.tag]
def encRes (x : XRes) : List AV := [.int .i64 x.err, .int .i64 x.size, .str x.zone, .int .u64 x.tag]
def encDone (x : XDone) : List AV := [.int .u8 x.c.verb, .str x.c.target, .int .u64 x.c.num, .int .i64 x.c.size, .str x.c.zone, .str x.c.node, .str x.c.source, .int .i64 x.r.err, .int .i64 x.r.size, .str x.r.zone, .int .u64 x.r.tag]
def encDeed (x : XDeed) : List AV := [.int .u8 x.c.verb, .str x.c.target, .int .u64 x.c.num, .int .i64 x.c.size, .str x.c.zone, .str x.c.node, .str x.c.source, .int .u64 x.tag]
def encDeed2 (x : XDeed2) : List AV := [.int .u8 x.c.verb, .str x.c.target, .int .u64 x.c.num, .int .i64 x.c.size, .str x.c.zone, .str x.c.node, .str x.c.source, .int .u8 x.o, .int .u64 x.tag, .bool x.again, .int .i64 x.i]
def encDv (x : XDv) : List AV := [.int .i64 x.size, .str x.zone, .int .u64 x.tag, .href x.spot]
def encKey (x : XKey) : List AV := [.int .u8 x.kind, .str x.name]
def encTgt (x : XTgt) : List AV := [.bool x.snap, .str x.name]
def encEvent (x : XEvent) : List AV :=
 [.int .u64 x.version, .bool x.gone, .int .u8 x.obj.kind, .str x.obj.name, .int .u64 x.obj.version, .int .u64 x.obj.born, .bool x.obj.deleting, .bool x.obj.hold, .str x.obj.cls, .int .i64 x.obj.size, .int .i64 x.obj.got, .int .u8 x.obj.mode,
  .bool x.obj.keep, .bool x.obj.wait, .str x.obj.zone, .str x.obj.node, .str x.obj.claim, .str x.obj.volume, .str x.obj.source, .int .u8 x.obj.phase, .int .u64 x.obj.num, .int .u64 x.obj.tag]
def encAct (x : XAct) : List AV :=
 [.int .u8 x.act, .int .u8 x.obj.kind, .str x.obj.name, .int .u64 x.obj.version, .int .u64 x.obj.born, .bool x.obj.deleting, .bool x.obj.hold, .str x.obj.cls, .int .i64 x.obj.size, .int .i64 x.obj.got, .int .u8 x.obj.mode,
  .bool x.obj.keep, .bool x.obj.wait, .str x.obj.zone, .str x.obj.node, .str x.obj.claim, .str x.obj.volume, .str x.obj.source, .int .u8 x.obj.phase, .int .u64 x.obj.num, .int .u64 x.obj.tag,
  .int .u8 x.call.verb, .str x.call.target, .int .u64 x.call.num, .int .i64 x.call.size, .str x.call.zone, .str x.call.node, .str x.call.source]

def Kind.esz : Kind → Nat
 | .int _ => 1 | .bool => 1 | .str => 1 | .obj => 20 | .call => 7 | .ask => 3 | .label => 2 | .term => 2 | .zone => 2 | .vol => 5 | .snap => 3
 | .sn => 2 | .done => 11 | .deed => 8 | .deed2 => 11 | .key => 2 | .tgt => 2 | .event => 22 | .strs => 1 | .labels => 1 | .terms => 1 | .dv => 4
def Kind.isAgg : Kind → Bool
 | .int _ => false | .bool => false | .str => false | .strs => false | .labels => false | .terms => false | _ => true
def Kind.flat : Kind → Bool
 | .term => false | .vol => false | .strs => false | .labels => false | .terms => false | _ => true
def Kind.enc : (k : Kind) → k.Ty → List AV
 | .int k, x => [.int k x]
 | .bool, x => [.bool x]
 | .str, x => [.str x]
 | .obj, x => encObj x
 | .call, x => encCall x
 | .ask, x => encAsk x
 | .label, x => encLabel x
 | .term, x => encTerm x
 | .zone, x => encZone x
 | .vol, x => encVol x
 | .snap, x => encSnap x
 | .sn, x => encSn x
 | .done, x => encDone x
 | .deed, x => encDeed x
 | .deed2, x => encDeed2 x
 | .key, x => encKey x
 | .tgt, x => encTgt x
 | .event, x => encEvent x
 | .strs, x => [.coll ⟨.str, x⟩]
 | .labels, x => [.coll ⟨.label, x⟩]
 | .terms, x => [.coll ⟨.term, x⟩]
 | .dv, x => encDv x
theorem Kind.enc_length (k : Kind) (x : k.Ty) : (k.enc x).length = k.esz := by cases k <;> rfl
theorem Kind.esz_pos (k : Kind) : 0 < k.esz := by cases k <;> simp [Kind.esz]
def Coll.len (c : Coll) : Nat := c.xs.length
def Coll.esz (c : Coll) : Nat := c.k.esz
def Coll.isAgg (c : Coll) : Bool := c.k.isAgg
def Coll.get (i : Nat) (c : Coll) : List AV := c.k.enc (c.xs.getD i default)
theorem Coll.get_length (c : Coll) (i : Nat) : (c.get i).length = c.esz := Kind.enc_length _ _
def AV.isColl : AV → Bool
 | .coll _ => true
 | _ => false
def AV.isSc : AV → Bool
 | .int .. => true | .bool _ => true | .str _ => true | .href _ => true | _ => false
def Kind.depth : Kind → Nat
 | .term => 1 | .vol => 1 | .strs => 1 | .labels => 1 | .terms => 2 | _ => 0
theorem Kind.enc_cell (k : Kind) (x : k.Ty) (j : Nat) (y : AV) (h : (k.enc x)[j]? = some y) : (∃ c : Coll, y = .coll c ∧ c.k.depth < k.depth) ∨ y.isSc = true := by
 have key : ∀ z ∈ k.enc x, (∃ c : Coll, z = .coll c ∧ c.k.depth < k.depth) ∨ z.isSc = true := by
  cases k <;> simp [Kind.enc, encObj, encCall, encAsk, encLabel, encTerm, encZone, encVol, encSnap, encSn, encDone, encDeed, encDeed2, encKey, encTgt, encEvent, encDv, AV.isSc, Kind.depth]
 exact key y (List.mem_of_getElem? h)

def Mem := Nat → Nat → Option Value
def Mem.le (M M' : Mem) : Prop := ∀ b o v, M b o = some v → M' b o = some v
theorem Mem.le_refl (M : Mem) : M.le M := fun _ _ _ h => h
theorem Mem.le_trans {A B C : Mem} (h : A.le B) (k : B.le C) : A.le C := fun b o v e => k b o v (h b o v e)

def sc : AV → Value → Prop
 | .int k n, v => v = .int k n
 | .bool b, v => v = .bool b
 | .str s, v => v = .string s
 | .href a, v => v = .map a
 | _, _ => False

def readsAt (M : Mem) (E : Coll → Value → Prop) (c : Coll) (b o : Nat) : Prop :=
 ∀ i, i < c.len → ∀ j x, (c.get i)[j]? = some x → ∃ u, M b (o + i * c.esz + j) = some u ∧ (match x with | .coll c' => E c' u | x => sc x u)
def repC (M : Mem) : Nat → Coll → Value → Prop
 | 0, _, _ => False
 | n + 1, c, v => ∃ a cap, v = .slice a c.len cap ∧ c.len ≤ cap ∧ (0 < c.len → ∃ b o, a = some ⟨b, o, none⟩ ∧ readsAt M (repC M n) c b o)
theorem readsAt_mono {M M' : Mem} {E E' : Coll → Value → Prop} (h : M.le M') (hE : ∀ c v, E c v → E' c v) {c : Coll} {b o : Nat} (hr : readsAt M E c b o) : readsAt M' E' c b o := by
 intro i hi j x hx
 obtain ⟨u, hu, hm⟩ := hr i hi j x hx
 refine ⟨u, h _ _ _ hu, ?_⟩
 cases x <;> first | exact hm | exact hE _ _ hm
theorem repC_mono {M M' : Mem} (h : M.le M') : ∀ (n : Nat) (c : Coll) (v : Value), repC M n c v → repC M' n c v
 | 0, _, _, hf => hf.elim
 | n + 1, _, _, ⟨a, cap, hv, hl, hr⟩ => ⟨a, cap, hv, hl, fun h0 => let ⟨b, o, ha, hh⟩ := hr h0; ⟨b, o, ha, readsAt_mono h (repC_mono h n) hh⟩⟩
theorem repC_up {M : Mem} : ∀ (n : Nat) (c : Coll) (v : Value), repC M n c v → repC M (n + 1) c v
 | 0, _, _, hf => hf.elim
 | n + 1, _, _, ⟨a, cap, hv, hl, hr⟩ => ⟨a, cap, hv, hl, fun h0 => let ⟨b, o, ha, hh⟩ := hr h0; ⟨b, o, ha, readsAt_mono (Mem.le_refl M) (repC_up n) hh⟩⟩
theorem repC_any {M : Mem} : ∀ (n m : Nat) (c : Coll) (v : Value), c.k.depth < n → c.k.depth < m → repC M n c v → repC M m c v := by
 intro n
 induction n with
 | zero => intro m c v h; omega
 | succ n ih =>
  intro m c v h1 h2 h
  cases m with
  | zero => omega
  | succ m =>
   obtain ⟨a, cap, hv, hl, hr⟩ := h
   refine ⟨a, cap, hv, hl, fun h0 => ?_⟩
   obtain ⟨b, o, ha, hh⟩ := hr h0
   refine ⟨b, o, ha, fun i hi j x hx => ?_⟩
   obtain ⟨u, hu, hm⟩ := hh i hi j x hx
   refine ⟨u, hu, ?_⟩
   rcases Kind.enc_cell _ _ _ _ hx with ⟨c', rfl, hd⟩ | hs
   · exact ih m c' u (by omega) (by omega) hm
   · cases x <;> simp [AV.isSc] at hs <;> exact hm
abbrev DEP : Nat := 3
theorem Kind.depth_le (k : Kind) : k.depth ≤ 2 := by cases k <;> simp [Kind.depth]
theorem repC_down {M : Mem} {c : Coll} {v : Value} (h : repC M (DEP + 1) c v) : repC M DEP c v := repC_any _ _ _ _ (by have := c.k.depth_le; show _ < 4; omega) (by have := c.k.depth_le; show _ < 3; omega) h

inductive RL where
 | blk (r : Nat)
 | hdr (v : Value)
structure Loc where
 pl : Nat → Option RL
 own : Nat → Option Nat
instance : CoeFun Loc fun _ => Nat → Option RL := ⟨Loc.pl⟩
def Loc.le (ρ ρ' : Loc) : Prop := ∀ id r, ρ id = some r → ρ' id = some r
theorem Loc.le_refl (ρ : Loc) : ρ.le ρ := fun _ _ h => h
theorem Loc.le_trans {A B C : Loc} (h : A.le B) (k : B.le C) : A.le C := fun i r e => k i r (h i r e)

mutual
def rep (ρ : Loc) (M : Mem) (G : Nat → Bool → Prop) : AV → Value → Prop
 | .unk, _ => True
 | .int k n, v => v = .int k n
 | .bool b, v => v = .bool b
 | .str s, v => v = .string s
 | .nilp, v => v = .pointer none
 | .ptr id off, v => ∃ r, ρ id = some (.blk r) ∧ v = .pointer (some ⟨r, off, none⟩)
 | .ep c i off, v => i < c.len ∧ off ≤ c.esz ∧ ∃ b o, v = .pointer (some ⟨b, o + i * c.esz + off, none⟩) ∧ readsAt M (repC M DEP) c b o
 | .evp id esz i off, v => off ≤ esz ∧ ∃ r n cap, ρ id = some (.hdr (.slice (some ⟨r, 0, none⟩) n cap)) ∧ i < n ∧ v = .pointer (some ⟨r, i * esz + off, none⟩)
 | .agg cs, v => ∃ vs, v = .agg ⟨vs⟩ ∧ repL ρ M G cs vs
 | .tup cs, v => ∃ vs, v = .tuple ⟨vs⟩ ∧ repL ρ M G cs vs
 | .nils, v => v = .slice none 0 0
 | .vec id, v => (∃ b n c, v = .slice b n c) ∧ ρ id = some (.hdr v)
 | .vsub id esz lo hi, v => lo ≤ hi ∧ ∃ hd a cap, ρ id = some (.hdr hd) ∧ v = .slice a (hi - lo) cap ∧ (lo < hi → ∃ r n cap', hd = .slice (some ⟨r, 0, none⟩) n cap' ∧ hi ≤ n ∧ a = some ⟨r, lo * esz, none⟩)
 | .coll c, v => repC M (DEP + 1) c v
 | .fn f cap, v => ∃ vs, v = .func (.func f) #[] ⟨vs⟩ ∧ repL ρ M G cap vs
 | .yld id, v => ∃ r, ρ id = some (.blk r) ∧ v = .func (.yield r) #[] #[]
 | .nxt b i r, v => v = if b then .tuple #[.bool true, .int .i64 i, .int .i32 r] else .tuple #[.bool false]
 | .nilf, v => v = .nilFunc
 | .map id, v => ∃ r, ρ id = some (.blk r) ∧ v = .map (some r)
 | .nilm, v => v = .map none
 | .nili, v => v = .nilIface
 | .iface t x, v => ∃ u, v = .iface t u ∧ rep ρ M G x u
 | .grd j want x, v => G j want → rep ρ M G x v
 | .href a, v => v = .map a
 | .mapq b _ n, v => (b = false ∧ v = .map none) ∨ (b = true ∧ ∃ r, ρ n = some (.blk r) ∧ v = .map (some r))
def repL (ρ : Loc) (M : Mem) (G : Nat → Bool → Prop) : List AV → List Value → Prop
 | [], [] => True
 | x :: xs, v :: vs => rep ρ M G x v ∧ repL ρ M G xs vs
 | _, _ => False
end
abbrev noG : Nat → Bool → Prop := fun _ _ => False

mutual
theorem rep_mono {ρ ρ' : Loc} {M M' : Mem} {G G' : Nat → Bool → Prop} (hρ : ρ.le ρ') (hM : M.le M') (hG : ∀ j b, G' j b → G j b) : ∀ (x : AV) (v : Value), rep ρ M G x v → rep ρ' M' G' x v
 | .unk, _, _ => by simp [rep]
 | .int _ _, _, h => by simpa [rep] using h
 | .bool _, _, h => by simpa [rep] using h
 | .str _, _, h => by simpa [rep] using h
 | .nilp, _, h => by simpa [rep] using h
 | .ptr id off, v, h => by simp only [rep] at h ⊢; obtain ⟨r, h1, h2⟩ := h; exact ⟨r, hρ _ _ h1, h2⟩
 | .ep c i off, v, h => by simp only [rep] at h ⊢; obtain ⟨h1, h1', b, o, h2, h3⟩ := h; exact ⟨h1, h1', b, o, h2, readsAt_mono hM (repC_mono hM _) h3⟩
 | .evp id esz i off, v, h => by simp only [rep] at h ⊢; obtain ⟨h0, r, n, cap, h1, h2, h3⟩ := h; exact ⟨h0, r, n, cap, hρ _ _ h1, h2, h3⟩
 | .agg cs, v, h => by simp only [rep] at h ⊢; obtain ⟨vs, h1, h2⟩ := h; exact ⟨vs, h1, repL_mono hρ hM hG cs vs h2⟩
 | .tup cs, v, h => by simp only [rep] at h ⊢; obtain ⟨vs, h1, h2⟩ := h; exact ⟨vs, h1, repL_mono hρ hM hG cs vs h2⟩
 | .nils, _, h => by simpa [rep] using h
 | .vec id, v, h => by simp only [rep] at h ⊢; exact ⟨h.1, hρ _ _ h.2⟩
 | .vsub id esz lo hi, v, h => by simp only [rep] at h ⊢; obtain ⟨h0, hd, a, cap, h1, h2, h3⟩ := h; exact ⟨h0, hd, a, cap, hρ _ _ h1, h2, h3⟩
 | .coll c, v, h => by simp only [rep] at h ⊢; exact repC_mono hM _ _ _ h
 | .fn f cap, v, h => by simp only [rep] at h ⊢; obtain ⟨vs, h1, h2⟩ := h; exact ⟨vs, h1, repL_mono hρ hM hG cap vs h2⟩
 | .yld id, v, h => by simp only [rep] at h ⊢; obtain ⟨r, h1, h2⟩ := h; exact ⟨r, hρ _ _ h1, h2⟩
 | .nxt _ _ _, _, h => by simpa only [rep] using h
 | .nilf, _, h => by simpa [rep] using h
 | .map id, v, h => by simp only [rep] at h ⊢; obtain ⟨r, h1, h2⟩ := h; exact ⟨r, hρ _ _ h1, h2⟩
 | .nilm, _, h => by simpa [rep] using h
 | .nili, _, h => by simpa [rep] using h
 | .iface t x, v, h => by simp only [rep] at h ⊢; obtain ⟨u, h1, h2⟩ := h; exact ⟨u, h1, rep_mono hρ hM hG x u h2⟩
 | .grd j w x, v, h => by simp only [rep] at h ⊢; exact fun hg => rep_mono hρ hM hG x v (h (hG _ _ hg))
 | .href _, _, h => by simpa [rep] using h
 | .mapq b _ n, v, h => by
  simp only [rep] at h ⊢
  rcases h with h | ⟨h1, r, h2, h3⟩
  · exact .inl h
  · exact .inr ⟨h1, r, hρ _ _ h2, h3⟩
theorem repL_mono {ρ ρ' : Loc} {M M' : Mem} {G G' : Nat → Bool → Prop} (hρ : ρ.le ρ') (hM : M.le M') (hG : ∀ j b, G' j b → G j b) : ∀ (xs : List AV) (vs : List Value), repL ρ M G xs vs → repL ρ' M' G' xs vs
 | [], [], _ => by simp [repL]
 | x :: xs, v :: vs, h => by simp only [repL] at h ⊢; exact ⟨rep_mono hρ hM hG x v h.1, repL_mono hρ hM hG xs vs h.2⟩
 | [], _ :: _, h => by simp [repL] at h
 | _ :: _, [], h => by simp [repL] at h
end
end Go.Eng
end
section
namespace Go.Eng
open Go.RowKit (Below)

structure MapC where
 k : Kind
 v : Kind
 es : List (k.Ty × v.Ty)
instance : Inhabited MapC := ⟨⟨.bool, .bool, []⟩⟩
inductive AObj where
 | dead
 | cells (t : TypeId) (cs : List AV)

 | vec (frz : Bool) (c : Coll)
 | map (m : MapC)

 | iter (s : ByteArray) (pos : Nat)

 | loop (site : Nat) (t : List AV) (pd : Option Code)

 | var (t : TypeId) (pre : List AV) (frz : Bool) (c : Coll)

 | vols (es : List (ByteArray × XVn)) (al : Option (Nat × ByteArray))
 deriving Inhabited

def hget (h : List AObj) (id : Nat) : AObj := h.getD id .dead
def hset : List AObj → Nat → AObj → List AObj
 | [], 0, o => [o]
 | [], n + 1, o => .dead :: hset [] n o
 | _ :: l, 0, o => o :: l
 | x :: l, n + 1, o => x :: hset l n o
theorem hget_hset (h : List AObj) (i j : Nat) (o : AObj) : hget (hset h i o) j = if i = j then o else hget h j := by
 induction i generalizing h j with
 | zero => cases h <;> cases j <;> simp [hset, hget]
 | succ n ih =>
  cases h with
  | nil =>
   cases j with
   | zero => simp [hset, hget]
   | succ j => have := ih [] j; simp [hset, hget] at this ⊢; rw [this]
  | cons x l =>
   cases j with
   | zero => simp [hset, hget]
   | succ j => have := ih l j; simp [hset, hget] at this ⊢; rw [this]
theorem length_hset (h : List AObj) (i : Nat) (o : AObj) : (hset h i o).length = max h.length (i + 1) := by
 induction i generalizing h with
 | zero => cases h <;> simp [hset]
 | succ n ih => cases h <;> simp [hset, ih] <;> omega

structure St where
 t : List AV
 h : List AObj
def St.get (s : St) (i : Nat) : AV := s.t.getD i .unk

section
variable (P : Program)
def tsize (t : TypeId) : Nat := match P.info? t with | some i => i.size | none => 0
def tagg (t : TypeId) : Bool := match P.underlying t with | some (.struct _) | some (.array _ _) => true | _ => false
def av1 : Value → AV
 | .int k n => .int k n
 | .bool b => .bool b
 | .string s => .str s
 | .pointer none => .nilp
 | .slice none 0 0 => .nils
 | .nilFunc => .nilf
 | .map none => .nilm
 | .nilIface => .nili
 | _ => .unk
def avOf : Value → AV
 | .agg cs => .agg (cs.toList.map av1)
 | v => av1 v
def tzero (t : TypeId) : Option AV := (P.info? t).bind fun i => i.zero.map avOf
end
def AV.cells : AV → List AV
 | .agg cs => cs
 | x => [x]
def AV.one : AV → Bool
 | .unk | .agg _ | .tup _ | .nxt .. | .grd .. => false
 | _ => true
def splice (cs : List AV) : Nat → List AV → List AV
 | 0, vs => vs ++ cs.drop vs.length
 | n + 1, vs => match cs with
  | [] => []
  | c :: cs => c :: splice cs n vs
def coerce (h : List AObj) : AV → AV
 | .vec id => match hget h id with | .vec true c => .coll c | _ => .vec id
 | x => x
def coerceF (h : List AObj) : AV → AV
 | .vec id => match hget h id with | .vec _ c => .coll c | _ => .vec id
 | x => x
def frzOf (h : List AObj) : List AV → List (Nat × AObj)
 | [] => []
 | .vec id :: xs => match hget h id with | .vec false c => (id, .vec true c) :: frzOf h xs | _ => frzOf h xs
 | _ :: xs => frzOf h xs

def decStrs : AV → Option (List ByteArray)
 | .coll ⟨.str, xs⟩ => some xs
 | .nils => some []
 | _ => none
def decLabels : AV → Option (List XLabel)
 | .coll ⟨.label, xs⟩ => some xs
 | .nils => some []
 | _ => none
def decTerms : AV → Option (List XTerm)
 | .coll ⟨.term, xs⟩ => some xs
 | .nils => some []
 | _ => none
def decObj : List AV → Option XObj
 | [.int .u8 kind, .str name, .int .u64 version, .int .u64 born, .bool deleting, .bool hold, .str cls, .int .i64 size, .int .i64 got, .int .u8 mode,
   .bool keep, .bool wait, .str zone, .str node, .str claim, .str volume, .str source, .int .u8 phase, .int .u64 num, .int .u64 tag] =>
  some ⟨kind, name, version, born, deleting, hold, cls, size, got, mode, keep, wait, zone, node, claim, volume, source, phase, num, tag⟩
 | _ => none
def decCall : List AV → Option XCall
 | [.int .u8 verb, .str target, .int .u64 num, .int .i64 size, .str zone, .str node, .str source] => some ⟨verb, target, num, size, zone, node, source⟩
 | _ => none
def decRes : List AV → Option XRes
 | [.int .i64 err, .int .i64 size, .str zone, .int .u64 tag] => some ⟨err, size, zone, tag⟩
 | _ => none
def Kind.dec : (k : Kind) → List AV → Option k.Ty
 | .int k, l => match l with | [.int k' n] => if k = k' then some n else none | _ => none
 | .bool, l => match l with | [.bool b] => some b | _ => none
 | .str, l => match l with | [.str s] => some s | _ => none
 | .obj, l => decObj l
 | .call, l => decCall l
 | .ask, l => match l with | [.str who, .int .u64 now, .int .u64 span] => some ⟨who, now, span⟩ | _ => none
 | .label, l => match l with | [.str k, .str v] => some ⟨k, v⟩ | _ => none
 | .term, l => match l with | [.str k, v] => (decStrs v).map fun xs => ⟨k, xs⟩ | _ => none
 | .zone, l => match l with | [.str n, .int .i64 r] => some ⟨n, r⟩ | _ => none
 | .vol, l => match l with | [.str n, .int .i64 s, .str z, .int .u64 g, v] => (decStrs v).map fun xs => ⟨n, s, z, g, xs⟩ | _ => none
 | .snap, l => match l with | [.str n, .int .i64 s, .int .u64 g] => some ⟨n, s, g⟩ | _ => none
 | .sn, l => match l with | [.int .i64 s, .int .u64 g] => some ⟨s, g⟩ | _ => none
 | .done, l => match decCall (l.take 7), decRes (l.drop 7) with | some c, some r => some ⟨c, r⟩ | _, _ => none
 | .deed, l => match decCall (l.take 7), l.drop 7 with | some c, [.int .u64 t] => some ⟨c, t⟩ | _, _ => none
 | .deed2, l => match decCall (l.take 7), l.drop 7 with | some c, [.int .u8 o, .int .u64 t, .bool a, .int .i64 i] => some ⟨c, o, t, a, i⟩ | _, _ => none
 | .key, l => match l with | [.int .u8 k, .str n] => some ⟨k, n⟩ | _ => none
 | .tgt, l => match l with | [.bool s, .str n] => some ⟨s, n⟩ | _ => none
 | .dv, l => match l with | [.int .i64 s, .str z, .int .u64 g, .href a] => some ⟨s, z, g, a⟩ | _ => none
 | .event, l => match l.take 2, decObj (l.drop 2) with | [.int .u64 v, .bool g], some o => some ⟨v, g, o⟩ | _, _ => none
 | .strs, l => match l with | [x] => decStrs x | _ => none
 | .labels, l => match l with | [x] => decLabels x | _ => none
 | .terms, l => match l with | [x] => decTerms x | _ => none
def Kind.av (k : Kind) (x : k.Ty) : AV := if k.isAgg then .agg (k.enc x) else (k.enc x).headD .unk
def Coll.set (c : Coll) (i : Nat) (x : c.k.Ty) : Coll := ⟨c.k, c.xs.set i x⟩
def Coll.sub (lo hi : Nat) (c : Coll) : Coll := ⟨c.k, (c.xs.take hi).drop lo⟩
def Coll.append (c d : Coll) : Option Coll := if h : d.k = c.k then some ⟨c.k, c.xs ++ h ▸ d.xs⟩ else none

def Kind.eqb : (k : Kind) → k.Ty → k.Ty → Bool
 | .int _, x, y => (x : Int) == y
 | .bool, x, y => (x : Bool) == y
 | .str, x, y => decide ((x : ByteArray) = y)
 | .key, x, y => (x : XKey).kind == y.kind && decide (x.name = y.name)
 | .tgt, x, y => (x : XTgt).snap == y.snap && decide (x.name = y.name)
 | _, _, _ => false
def mget {k v : Kind} (es : List (k.Ty × v.Ty)) (x : k.Ty) : Option v.Ty := match es with
 | [] => none
 | e :: r => if k.eqb x e.1 then some e.2 else mget r x
def mset {k v : Kind} (es : List (k.Ty × v.Ty)) (x : k.Ty) (y : v.Ty) : List (k.Ty × v.Ty) := match es with
 | [] => [(x, y)]
 | e :: r => if k.eqb x e.1 then (x, y) :: r else e :: mset r x y
def vget (es : List (ByteArray × XVn)) (x : ByteArray) : Option XVn := match es with
 | [] => none
 | e :: r => if Kind.eqb .str x e.1 then some e.2 else vget r x
def vset (es : List (ByteArray × XVn)) (x : ByteArray) (y : XVn) : List (ByteArray × XVn) := match es with
 | [] => [(x, y)]
 | e :: r => if Kind.eqb .str x e.1 then (x, y) :: r else e :: vset r x y
def vdel (es : List (ByteArray × XVn)) (x : ByteArray) : List (ByteArray × XVn) := match es with
 | [] => []
 | e :: r => if Kind.eqb .str x e.1 then r else e :: vdel r x
def vmod (es : List (ByteArray × XVn)) (x : ByteArray) (f : List (ByteArray × Bool) → List (ByteArray × Bool)) : List (ByteArray × XVn) := match es with
 | [] => []
 | e :: r => if Kind.eqb .str x e.1 then (e.1, { e.2 with nodes := f e.2.nodes }) :: r else e :: vmod r x f
def mdel {k v : Kind} (es : List (k.Ty × v.Ty)) (x : k.Ty) : List (k.Ty × v.Ty) := match es with
 | [] => []
 | e :: r => if k.eqb x e.1 then r else e :: mdel r x

abbrev Eff := List (Nat × AObj)
abbrev Out := AV × Eff × List Prop
inductive YB where
 | one (x : Out)
 | two (b : Bool) (x y : Out)
structure Env where
 P : Program

 K : FuncId → List AV → List AObj → Nat → Option Out

 KP : FuncId → List AV → Option (Bool × Value)

 KB : FuncId → List AV → List AObj → Nat → Option (Bool × Out × Out)

 Y : List AV → List AObj → Nat → Option YB

 ck : TypeId → Option Kind

 wr : Bool

def opd (t : List AV) : Operand → AV
 | .tmp i => t.getD i .unk
 | .const v => avOf v
 | .func f => .fn f []
 | .global _ => .unk

def eqOne : AV → AV → Option Bool
 | .int k a, .int k' b => if k = k' then some (a == b) else none
 | .bool a, .bool b => some (a == b)
 | .str a, .str b => some (decide (a = b))
 | _, _ => none
def tkindOk (P : Program) (t : TypeId) : AV → Bool
 | .int .. => match P.underlying t with | some (.int _) => true | _ => false
 | .bool _ => match P.underlying t with | some .bool => true | _ => false
 | .str _ => match P.underlying t with | some .string => true | _ => false
 | _ => false
def seg (P : Program) (f : Field) (xs : List AV) : List AV := (xs.drop f.offset).take (tsize P f.type)
def eqFs (eq : TypeId → List AV → List AV → Option Bool) (P : Program) : List Field → List AV → List AV → Option Bool
 | [], _, _ => some true
 | [f], xs, ys => if f.name == "_" then none else eq f.type (seg P f xs) (seg P f ys)
 | f :: g :: fs, xs, ys => if f.name == "_" then none else match eq f.type (seg P f xs) (seg P f ys), eqFs eq P (g :: fs) xs ys with
  | some a, some b => some (a && b)
  | _, _ => none
def eqTy (P : Program) : Nat → TypeId → List AV → List AV → Option Bool
 | 0, _, _, _ => none
 | d + 1, t, xs, ys => match xs, ys with
  | [x], [y] => if !tagg P t && tkindOk P t x then eqOne x y else none
  | xs, ys => match P.underlying t with
   | some (.struct fs) => if P.stoodInHeld t then none else if xs.length == tsize P t && ys.length == tsize P t && (P.info? t).isSome then eqFs (eqTy P d) P fs.toList xs ys else none
   | _ => none
def eqAV (P : Program) (t : TypeId) (x y : AV) : Option Bool :=
 match x, y with
 | .agg xs, .agg ys => if P.eqGuardType P.depth t then none else match P.underlying t with
  | some (.struct fs) => if P.stoodInHeld t then none else eqFs (eqTy P 4) P fs.toList xs ys
  | _ => none
 | .nilp, .nilp => match P.underlying t with | some (.pointer _) => some true | _ => none
 | .ptr .., .nilp => match P.underlying t with | some (.pointer _) => some false | _ => none
 | .bool a, .bool b => match P.underlying t with | some .bool => some (a == b) | _ => none
 | .int k a, .int k' b => if k = k' then some (a == b) else none
 | .str a, .str b => some (decide (a = b))
 | _, _ => none
def strLess (a b : ByteArray) : Bool := Op.bytesLess a.toList b.toList
def bitsI (op : BinOp) (k : IntKind) (a b : Int) : Int :=
 match op with
 | .and => k.wrap ((BitVec.ofInt k.bits a &&& BitVec.ofInt k.bits b).toNat : Int)
 | .or => k.wrap ((BitVec.ofInt k.bits a ||| BitVec.ofInt k.bits b).toNat : Int)
 | .xor => k.wrap ((BitVec.ofInt k.bits a ^^^ BitVec.ofInt k.bits b).toNat : Int)
 | _ => 0
def shlI (k : IntKind) (a b : Int) : Int := k.wrap (a * 2 ^ min b.toNat k.bits)
def shrI (k : IntKind) (a b : Int) : Int := a.fdiv (2 ^ min b.toNat k.bits)
def evBin (P : Program) (op : BinOp) (t : TypeId) (x y : AV) : Option (AV × List Prop) :=
 match op, x, y with
 | .add, .int k a, .int k' b => if k = k' then some (.int k (k.wrap (a + b)), []) else none
 | .sub, .int k a, .int k' b => if k = k' then some (.int k (k.wrap (a - b)), []) else none
 | .mul, .int k a, .int k' b => if k = k' then some (.int k (k.wrap (a * b)), []) else none
 | .quo, .int k a, .int k' b => if k = k' then some (.int k (k.wrap (a.tdiv b)), [b ≠ 0]) else none
 | .rem, .int k a, .int k' b => if k = k' then some (.int k (a.tmod b), [b ≠ 0]) else none
 | .shr, .int k a, .int k' b => if k = .u64 ∧ k' = .u64 ∧ b = 1 then some (.int .u64 (a / 2), []) else some (.int k (shrI k a b), [0 ≤ b])
 | .shl, .int k a, .int _ b => some (.int k (shlI k a b), [0 ≤ b])
 | .and, .int k a, .int k' b => if k = k' then some (.int k (bitsI .and k a b), []) else none
 | .or, .int k a, .int k' b => if k = k' then some (.int k (bitsI .or k a b), []) else none
 | .xor, .int k a, .int k' b => if k = k' then some (.int k (bitsI .xor k a b), []) else none
 | .lss, .int k a, .int k' b => if k = k' then some (.bool (decide (a < b)), []) else none
 | .leq, .int k a, .int k' b => if k = k' then some (.bool (decide (a ≤ b)), []) else none
 | .gtr, .int k a, .int k' b => if k = k' then some (.bool (decide (a > b)), []) else none
 | .geq, .int k a, .int k' b => if k = k' then some (.bool (decide (a ≥ b)), []) else none
 | .add, .str a, .str b => some (.str (a ++ b), [a.size + b.size ≤ 9223372036854775807])
 | .lss, .str a, .str b => some (.bool (strLess a b), [])
 | .gtr, .str a, .str b => some (.bool (!(strLess a b || decide (a = b))), [])
 | .leq, .str a, .str b => some (.bool (strLess a b || decide (a = b)), [])
 | .geq, .str a, .str b => some (.bool (!strLess a b), [])
 | .eql, x, y => (eqAV P t x y).map fun b => (.bool b, [])
 | .neq, x, y => (eqAV P t x y).map fun b => (.bool (!b), [])
 | _, _, _ => none

def pureOut (x : AV) : Option Out := some (x, [], [])
def fieldOff (P : Program) (s : TypeId) (f : Nat) : Option (Nat × TypeId) :=
 match P.underlying s with
 | some (.struct fs) => (fs[f]?).map fun x => (x.offset, x.type)
 | _ => none
def placesOf (P : Program) (t : TypeId) : Option (List (Nat × Nat)) :=
 match P.underlying t with
 | some (.struct fs) => if fs.toList.all fun f => (P.info? f.type).isSome then some (fs.toList.map fun f => (f.offset, tsize P f.type)) else none
 | _ => none
def fillAV (pl : List (Nat × Nat)) : List AV → List (Nat × AV) → Option (List AV)
 | cs, [] => some cs
 | cs, (i, x) :: r => match pl[i]? with
  | some (off, n) => if x.cells.length = n ∧ off + n ≤ cs.length then fillAV pl (splice cs off x.cells) r else none
  | none => none
def byteAt (s : ByteArray) (i : Int) : Int := ((s.data.getD i.toNat 0).toNat : Int)
def bytesStr (ns : List Int) : ByteArray := ns.foldl (fun r n => r.push (UInt8.ofNat n.toNat)) ByteArray.empty
def loadFrom (P : Program) (t : TypeId) (cs : List AV) (off : Nat) : Option AV :=
 if (P.underlying t).isSome && (P.info? t).isSome then
  if tagg P t then (if off + tsize P t ≤ cs.length then some (.agg ((cs.drop off).take (tsize P t))) else none)
  else cs[off]?
 else none

def scalarOk (P : Program) (t : TypeId) (k : Kind) : Bool := match k with
 | .int i => match P.underlying t with | some (.int j) => decide (i = j) | _ => false
 | .bool => match P.underlying t with | some .bool => true | _ => false
 | .str => match P.underlying t with | some .string => true | _ => false
 | _ => false
def kindOk (P : Program) (t : TypeId) (k : Kind) : Bool := tsize P t == k.esz && (P.info? t).isSome && (P.underlying t).isSome && tagg P t == k.isAgg
def pairOk (P : Program) (t : TypeId) (k1 k2 : Kind) : Bool := match P.underlying t with
 | some (.struct fs) => match fs.toList with
  | [f, g] => f.name != "_" && g.name != "_" && f.offset == 0 && g.offset == 1 && tsize P f.type == 1 && tsize P g.type == 1 && !tagg P f.type && !tagg P g.type && scalarOk P f.type k1 && scalarOk P g.type k2 && !P.stoodInHeld t
  | _ => false
 | _ => false
def keyOk (P : Program) (t : TypeId) (k : Kind) : Bool := match k with
 | .int _ | .bool | .str => scalarOk P t k
 | .key => pairOk P t (.int .u8) .str
 | .tgt => pairOk P t .bool .str
 | _ => false
def sameZ : AV → AV → Bool
 | .int k n, .int k' n' => decide (k = k') && n == n'
 | .bool b, .bool b' => b == b'
 | .str s, .str s' => s.size == 0 && s'.size == 0
 | .coll c, .nils => c.len == 0
 | .href a, .nilm => a.isNone
 | _, _ => false
def sameZL : List AV → List AV → Bool
 | [], [] => true
 | x :: xs, y :: ys => sameZ x y && sameZL xs ys
 | _, _ => false
def aggAV : AV → Bool
 | .agg _ => true
 | _ => false
def zeroOk (P : Program) (t : TypeId) (k : Kind) : Bool := match tzero P t with
 | some z => aggAV z == k.isAgg && sameZL (k.enc default) z.cells
 | none => false
def kindOf (E : Env) (t : TypeId) : Option Kind := match E.ck t with
 | some k => if kindOk E.P t k then some k else none
 | none => none
def bytesOf (P : Program) (t : TypeId) : Nat := match P.info? t with | some i => i.bytes | none => 0
def decAll (k : Kind) (t : List AV) : Nat → List (Nat × Operand) → Option (List k.Ty)
 | _, [] => some []
 | i, (j, x) :: r => if i = j then match k.dec (opd t x).cells, decAll k t (i + 1) r with
   | some y, some ys => some (y :: ys)
   | _, _ => none
  else none
def srcOf (h : List AObj) (k : Kind) : AV → Option Coll
 | .nils => some ⟨k, []⟩
 | .coll c => some c
 | .vec id => match hget h id with | .vec _ c => some c | _ => none
 | .vsub id esz lo hi => match hget h id with | .vec _ c => if esz = c.esz then some (c.sub lo hi) else none | _ => none
 | _ => none
def baseOf (h : List AObj) (k : Kind) (m : Bool) : AV → Option (Option Nat × Bool × Coll)
 | .nils => some (none, !m, ⟨k, []⟩)
 | .vec id => match hget h id with | .vec f c => some (some id, f, c) | _ => none
 | _ => none
def nilVec (E : Env) (t : TypeId) (nid : Nat) : Option Out := match E.P.underlying t with
 | some (.slice e) => match E.ck e with
  | some k => some (.vec nid, [(nid, .vec (!E.wr) ⟨k, []⟩)], [])
  | none => pureOut .nils
 | _ => pureOut .nils
def isNilc : Operand → Bool
 | .const (.slice none 0 0) => true
 | _ => false
def bytesLim : Nat := 140737488355328
def boundAV (t : List AV) (d : Int) : Option Operand → Option Int
 | none => some d
 | some x => match opd t x with | .int _ i => some i | _ => none
def evSlice (E : Env) (t : List AV) (h : List AObj) (ty : TypeId) (x : Operand) (lo hi : Option Operand) : Option Out :=
 match E.P.underlying ty, coerce h (opd t x) with
 | some .string, .str s => match boundAV t 0 lo, boundAV t s.size hi with
  | some l, some r => some (.str (s.extract l.toNat r.toNat), [], [0 ≤ l ∧ l ≤ r ∧ r ≤ s.size])
  | _, _ => none
 | some (.slice e), .coll c => match boundAV t 0 lo, boundAV t c.len hi with
  | some l, some r => if (E.P.info? e).isSome ∧ tsize E.P e = c.esz then some (.coll (c.sub l.toNat r.toNat), [], [0 ≤ l ∧ l ≤ r ∧ r ≤ c.len]) else none
  | _, _ => none
 | some (.slice e), .vec id => match hget h id with
  | .vec _ c => match boundAV t 0 lo, boundAV t c.len hi with
   | some l, some r => if (E.P.info? e).isSome ∧ tsize E.P e = c.esz then some (.vsub id c.esz l.toNat r.toNat, [], [0 ≤ l ∧ l ≤ r ∧ r ≤ c.len]) else none
   | _, _ => none
  | _ => none
 | _, _ => none
def deadOf : Option Nat → Eff
 | some id => [(id, .dead)]
 | none => []
def strInts (s : ByteArray) : List Int := s.data.toList.map fun b => (b.toNat : Int)
def srcAny (P : Program) (h : List AObj) (k : Kind) (tx : TypeId) (y : AV) : Option Coll :=
 match P.underlying tx with
 | some (.slice _) => srcOf h k y
 | some .string => match k, y with
  | .int .u8, .str s => some ⟨.int .u8, strInts s⟩
  | _, _ => none
 | _ => none
def evAppend (E : Env) (t : List AV) (h : List AObj) (nid : Nat) (ty tx : TypeId) (x y : Operand) : Option Out :=
 match E.P.underlying ty with
 | some (.slice e) => match kindOf E e with
  | some k => if zeroOk E.P e k then match baseOf h k E.wr (opd t x), srcAny E.P h k tx (opd t y) with
   | some (b, f, c), some d => match c.append d with
    | some c' => if c.k = k ∧ (∀ i, b = some i → i < nid) then some (.vec nid, deadOf b ++ [(nid, .vec f c')], [(c.len + d.len) * bytesOf E.P e ≤ bytesLim ∧ c.len + d.len ≤ maxLen]) else none
    | none => none
   | _, _ => none
   else none
  | none => none
 | _ => none
def Kind.decV (k : Kind) (x : AV) : Option k.Ty := if aggAV x = k.isAgg then k.dec x.cells else none
def evBuildSlice (E : Env) (t : List AV) (nid : Nat) (ty : TypeId) (len : Nat) (ps : List (Nat × Operand)) : Option Out :=
 match E.P.underlying ty with
 | some (.slice e) => match kindOf E e with
  | some k => match decAll k t 0 ps with
   | some xs => if xs.length = len ∧ len * k.esz ≤ 16777216 ∧ zeroOk E.P e k then some (.vec nid, [(nid, .vec false ⟨k, xs⟩)], []) else none
   | none => none
  | none => none
 | _ => none
def evMakeSlice (E : Env) (t : List AV) (nid : Nat) (ty : TypeId) (l c : Operand) : Option Out :=
 match E.P.underlying ty, opd t l, opd t c with
 | some (.slice e), .int _ l, .int _ c => match kindOf E e with
  | some k => if zeroOk E.P e k then some (.vec nid, [(nid, .vec (!E.wr) ⟨k, List.replicate l.toNat default⟩)], [0 ≤ l ∧ l ≤ c ∧ c * bytesOf E.P e ≤ 281474976710656 ∧ c ≤ 9223372036854775807]) else none
  | none => none
 | _, _, _ => none
def evMakeMap (E : Env) (nid : Nat) (ty : TypeId) : Option Out :=
 match E.P.underlying ty with
 | some (.map kt et) => match kindOf E kt, kindOf E et with
  | some k, some v => some (.map nid, [(nid, .map ⟨k, v, []⟩)], [])
  | _, _ => none
 | _ => none
def evLookup (E : Env) (t : List AV) (h : List AObj) (ty : TypeId) (x y : Operand) (ok : Bool) : Option Out :=
 match E.P.underlying ty, opd t x with
 | some (.map kt et), .map id => match hget h id with
  | .map m => if keyOk E.P kt m.k ∧ kindOk E.P et m.v ∧ zeroOk E.P et m.v then match m.k.decV (opd t y) with
   | some key => let r := mget m.es key
    pureOut (if ok then .tup [m.v.av (r.getD default), .bool r.isSome] else m.v.av (r.getD default))
   | none => none
   else none
  | _ => none
 | _, _ => none
def evUpdate (E : Env) (t : List AV) (h : List AObj) (ty : TypeId) (x y z : Operand) : Option Out :=
 match E.P.underlying ty, opd t x with
 | some (.map kt _), .map id => match hget h id with
  | .map m => if keyOk E.P kt m.k then match m.k.decV (opd t y), m.v.decV (opd t z) with
   | some key, some val => some (.unk, [(id, .map ⟨m.k, m.v, mset m.es key val⟩)], [])
   | _, _ => none
   else none
  | _ => none
 | _, _ => none
def evDelete (E : Env) (t : List AV) (h : List AObj) (ty : TypeId) (x y : Operand) : Option Out :=
 match E.P.underlying ty, opd t x with
 | some (.map kt _), .map id => match hget h id with
  | .map m => if keyOk E.P kt m.k then match m.k.decV (opd t y) with
   | some key => some (.tup [], [(id, .map ⟨m.k, m.v, mdel m.es key⟩)], [])
   | none => none
   else none
  | _ => none
 | _, _ => none
def applyEff (h : List AObj) (effs : Eff) : List AObj := effs.foldl (fun h p => hset h p.1 p.2) h
def evCall1 (E : Env) (g : FuncId) (raw cap : List AV) (h : List AObj) (nid : Nat) : Option Out :=
 match E.K g (raw.map (coerce h) ++ cap) h nid with
 | some o => some o
 | none => match frzOf h raw with
  | [] => none
  | fz => match E.K g (raw.map (coerceF h) ++ cap) (applyEff h fz) nid with
   | some (x, effs, need) => some (x, fz ++ effs, need)
   | none => none

def nilColl (E : Env) : List TypeId → List AV → List AV
 | t :: ts, x :: xs => (match x, E.P.underlying t with
  | .nils, some (.slice e) => match E.ck e with
   | some k => .coll ⟨k, []⟩
   | none => .nils
  | y, _ => y) :: nilColl E ts xs
 | _, xs => xs
def paramsOf (P : Program) (g : FuncId) : List TypeId := match P.funcs[g]? with
 | some f => f.params.toList
 | none => []
def evCall (E : Env) (g : FuncId) (raw cap : List AV) (h : List AObj) (nid : Nat) : Option Out :=
 match evCall1 E g raw cap h nid with
 | some o => some o
 | none => evCall1 E g (nilColl E (paramsOf E.P g) raw) cap h nid
def AObj.rest : AObj → AObj
 | .vols es _ => .vols es none
 | o => o
def restFrom : Nat → List AObj → Eff
 | _, [] => []
 | j, .vols es (some _) :: r => (j, .vols es none) :: restFrom (j + 1) r
 | j, _ :: r => restFrom (j + 1) r
def evCall' (E : Env) (g : FuncId) (raw cap : List AV) (h : List AObj) (nid : Nat) : Option Out :=
 match evCall E g raw cap h nid with
 | some o => some o
 | none => match restFrom 0 h with
  | [] => none
  | rs => match evCall E g raw cap (applyEff h rs) nid with
   | some (x, effs, need) => some (x, rs ++ effs, need)
   | none => none
def volAt (h : List AObj) (id n : Nat) : Option (List (ByteArray × XVn) × ByteArray) := match hget h id with
 | .vols es (some (n', k)) => if n' = n then some (es, k) else none
 | _ => none
def isVolT (P : Program) (et : TypeId) : Bool := kindOk P et .dv && zeroOk P et .dv
def evMakeVols (E : Env) (nid : Nat) (ty : TypeId) : Option Out :=
 match E.P.underlying ty with
 | some (.map kt et) => if keyOk E.P kt .str && isVolT E.P et then some (.map nid, [(nid, .vols [] none)], []) else none
 | _ => none
def evLookupV (E : Env) (t : List AV) (h : List AObj) (nid : Nat) (ty : TypeId) (x y : Operand) (ok : Bool) : Option Out :=
 match E.P.underlying ty, opd t x, opd t y with
 | some (.map kt et), .map id, .str key => match hget h id with
  | .vols es _ => if keyOk E.P kt .str && isVolT E.P et && Nat.blt id nid then
    let r := vget es key
    let v := r.getD default
    let a : AV := .agg [.int .i64 v.size, .str v.zone, .int .u64 v.tag, .mapq r.isSome id nid]
    some (if ok then .tup [a, .bool r.isSome] else a, [(nid, .dead), (id, .vols es (some (nid, key)))], [])
   else none
  | _ => none
 | some (.map kt et), .mapq b id n, .str node => match volAt h id n with
  | some (es, key) => if keyOk E.P kt .str ∧ kindOk E.P et .bool ∧ zeroOk E.P et .bool then
    let r := (vget es key).bind fun v => mget (k := .str) (v := .bool) v.nodes node
    some (if ok then .tup [.bool (r.getD false), .bool r.isSome] else .bool (r.getD false), [], [b = (vget es key).isSome])
   else none
  | none => none
 | _, _, _ => none
def evUpdateV (E : Env) (t : List AV) (h : List AObj) (ty : TypeId) (x y z : Operand) : Option Out :=
 match E.P.underlying ty, opd t x, opd t y, opd t z with
 | some (.map kt _), .map id, .str key, .agg [.int .i64 s, .str zo, .int .u64 g, .mapq b id' n] => match volAt h id n with
  | some (es, k) => if keyOk E.P kt .str ∧ id' = id then
    some (.unk, [(id, .vols (vset es key ⟨s, zo, g, ((vget es k).getD default).nodes⟩) (some (n, k)))], [key = k ∧ b = true ∧ (vget es k).isSome = true])
   else none
  | none => none
 | some (.map kt _), .map id, .str key, .agg [.int .i64 s, .str zo, .int .u64 g, .map m] => match hget h id, hget h m with
  | .vols es _, .map ⟨.str, .bool, ns⟩ => if keyOk E.P kt .str then
    some (.unk, [(m, .dead), (id, .vols (vset es key ⟨s, zo, g, ns⟩) none)], [])
   else none
  | _, _ => none
 | some (.map kt _), .mapq b id n, .str node, .bool q => match volAt h id n with
  | some (es, k) => if keyOk E.P kt .str then
    some (.unk, [(id, .vols (vmod es k fun l => mset (k := .str) (v := .bool) l node q) (some (n, k)))], [b = true ∧ (vget es k).isSome = true])
   else none
  | none => none
 | _, _, _, _ => none
def evDeleteV (E : Env) (t : List AV) (h : List AObj) (ty : TypeId) (x y : Operand) : Option Out :=
 match E.P.underlying ty, opd t x, opd t y with
 | some (.map kt _), .map id, .str key => match hget h id with
  | .vols es _ => if keyOk E.P kt .str then some (.tup [], [(id, .vols (vdel es key) none)], []) else none
  | _ => none
 | some (.map kt _), .mapq b id n, .str node => match volAt h id n with
  | some (es, k) => if keyOk E.P kt .str then
    some (.tup [], [(id, .vols (vmod es k fun l => mdel (k := .str) (v := .bool) l node) (some (n, k)))], [b = (vget es k).isSome])
   else none
  | none => none
 | _, _, _ => none
def evLenV (h : List AObj) : AV → Option Out
 | .mapq b id n => match volAt h id n with
  | some (es, k) => some (.int .i64 (((vget es k).map fun v => v.nodes.length).getD 0 : Nat), [], [b = (vget es k).isSome])
  | none => none
 | _ => none
def orV (a b : Option Out) : Option Out := match a with
 | some o => some o
 | none => b
def evNext (t : List AV) (h : List AObj) (it : Operand) : Option Out := match opd t it with
 | .ptr id off => if off = 0 then match hget h id with
   | .iter s pos => some (.nxt (decide (pos < s.size)) pos (Utf8.decode s pos).1, [(id, .iter s (cond (decide (pos < s.size)) (pos + (Utf8.decode s pos).2) pos))], [])
   | _ => none
  else none
 | _ => none
def nilField (E : Env) (t : TypeId) : Option (Nat × Kind) := match E.P.underlying t with
 | some (.slice e) => (E.ck e).map (0, ·)
 | some (.struct fs) => if (E.ck t).isSome then none else fs.toList.findSome? fun f => match E.P.underlying f.type with
  | some (.slice e) => (E.ck e).map (f.offset, ·)
  | _ => none
 | _ => none
def evAlloc (E : Env) (nid : Nat) (e : TypeId) (z : AV) : Out := match nilField E e with
 | some (off, k) => match z.cells[off]? with
  | some .nils => (.ptr nid 0, [(nid + 1, .vec (!E.wr) ⟨k, []⟩), (nid, .cells e (z.cells.set off (.vec (nid + 1))))], [])
  | _ => (.ptr nid 0, [(nid, .cells e z.cells)], [])
 | none => (.ptr nid 0, [(nid, .cells e z.cells)], [])
def evOp (E : Env) (t : List AV) (h : List AObj) (nid : Nat) (oo : Oper) : Option Out :=
 match oo.op with
 | .move x | .assign x => if isNilc x then nilVec E oo.type nid else pureOut (opd t x)
 | .alloc e => match tzero E.P e with
  | some z => some (evAlloc E nid e z)
  | none => none
 | .box e x => let v := opd t x
  if v.cells.all AV.one then some (.ptr nid 0, [(nid, .cells e v.cells)], []) else none
 | .build ty ps => match tzero E.P ty, placesOf E.P ty with
  | some (.agg z), some pl => if ps.toList.all fun p => (opd t p.2).cells.all AV.one then
    match fillAV pl z (ps.toList.map fun p => (p.1, opd t p.2)) with
    | some cs => pureOut (.agg cs)
    | none => none
   else none
  | _, _ => none
 | .load ty a => match opd t a with
  | .ptr id off => match hget h id with
   | .cells _ cs => (loadFrom E.P ty cs off).bind pureOut
   | _ => none
  | .ep c i off => (loadFrom E.P ty (c.get i) off).bind pureOut
  | .evp id esz i off => match hget h id with
   | .vec _ c => if c.esz = esz then (loadFrom E.P ty (c.get i) off).bind pureOut else none
   | _ => none
  | _ => none
 | .store ty a x => let v := opd t x
  match opd t a with
  | .ptr id off => match hget h id with
   | .cells ct cs => if (E.P.info? ty).isSome ∧ v.cells.length = tsize E.P ty ∧ off + v.cells.length ≤ cs.length ∧ v.cells.all AV.one then some (.unk, [(id, .cells ct (splice cs off v.cells))], []) else none
   | _ => none
  | .evp id esz i off => match hget h id with
   | .vec false c => if (E.P.info? ty).isSome ∧ v.cells.length = tsize E.P ty ∧ off + v.cells.length ≤ esz ∧ v.cells.all AV.one ∧ c.esz = esz then match c.k.dec (splice (c.get i) off v.cells) with
    | some y => some (.unk, [(id, .vec false (c.set i y))], [])
    | none => none
    else none
   | _ => none
  | _ => none
 | .nilCheck x => match opd t x with
  | .ptr id off => pureOut (.ptr id off)
  | .ep c i off => pureOut (.ep c i off)
  | .evp id esz i off => pureOut (.evp id esz i off)
  | .fn f cap => pureOut (.fn f cap)
  | _ => none
 | .binOp op ty x y _ => (evBin E.P op ty (opd t x) (opd t y)).map fun r => (r.1, [], r.2)
 | .unOp .not _ x => match opd t x with
  | .bool b => pureOut (.bool (!b))
  | _ => none
 | .unOp .neg _ x => match opd t x with
  | .int k n => pureOut (.int k (k.wrap (0 - n)))
  | _ => none
 | .unOp .xor _ x => match opd t x with
  | .int k n => pureOut (.int k (bitsI .xor k (if k.signed then -1 else k.max) n))
  | _ => none
 | .convert src dst x => match E.P.underlying src, E.P.underlying dst, opd t x with
  | some (.int _), some (.int k), .int _ n => pureOut (.int k (k.wrap n))
  | some .string, some .string, .str s => pureOut (.str s)
  | some (.slice e), some .string, y => match E.P.underlying e, srcOf h (.int .u8) y with
   | some (.int .u8), some ⟨.int .u8, ns⟩ => pureOut (.str (bytesStr ns))
   | _, _ => none
  | _, _, _ => none
 | .makeFunc (.func f) first cap => if first.size = 0 then pureOut (.fn f (cap.toList.map (opd t))) else none
 | .makeInterface ty x => match E.P.underlying ty with
  | some (.interface _) => none
  | some _ => pureOut (.iface ty (opd t x))
  | none => none
 | .fieldAddr s x f => match fieldOff E.P s f with
  | some (off, ft) => if tsize E.P ft = 0 then none else match opd t x with
   | .ptr id o => pureOut (.ptr id (o + off))
   | .ep c i o => if o + off ≤ c.esz then pureOut (.ep c i (o + off)) else none
   | .evp id esz i o => if o + off ≤ esz then pureOut (.evp id esz i (o + off)) else none
   | _ => none
  | none => none
 | .field s x f => match fieldOff E.P s f, opd t x with
  | some (off, ft), .agg cs => (loadFrom E.P ft cs off).bind pureOut
  | _, _ => none
 | .indexAddr ty x ix => match E.P.underlying ty, coerce h (opd t x), opd t ix with
  | some (.slice e), .coll c, .int _ i => if (E.P.info? e).isSome ∧ tsize E.P e = c.esz then some (.ep c i.toNat 0, [], [0 ≤ i ∧ i < c.len]) else none
  | some (.slice e), .vec id, .int _ i => match hget h id with
   | .vec _ c => if (E.P.info? e).isSome ∧ tsize E.P e = c.esz then some (.evp id c.esz i.toNat 0, [], [0 ≤ i ∧ i < c.len]) else none
   | _ => none
  | some (.array m e), .ptr id o, .int _ i => if (E.P.info? e).isSome then some (.ptr id (o + i.toNat * tsize E.P e), [], [0 ≤ i ∧ i < m]) else none
  | _, _, _ => none
 | .index ty x ix => match E.P.underlying ty, opd t x, opd t ix with
  | some .string, .str s, .int _ i => some (.int .u8 (byteAt s i), [], [0 ≤ i ∧ i < s.size])
  | _, _, _ => none
 | .extract x ix => match opd t x with
  | .tup vs => (vs[ix]?).bind pureOut
  | .nxt b i r => match ix with
   | 0 => pureOut (.bool b)
   | 1 => some (.int .i64 i, [], [b = true])
   | 2 => some (.int .i32 r, [], [b = true])
   | _ => none
  | _ => none
 | .range xt x => match E.P.underlying xt, opd t x with
  | some .string, .str s => some (.ptr nid 0, [(nid, .iter s 0)], [])
  | _, _ => none
 | .next it true => evNext t h it
 | .call c => match c.callee with
  | .builtin .len => match c.argTypes[0]?, c.args[0]? with
   | some ty, some x => match E.P.underlying ty, coerce h (opd t x) with
    | some .string, .str s => pureOut (.int .i64 s.size)
    | some (.slice _), .coll c => pureOut (.int .i64 c.len)
    | some (.slice _), .nils => pureOut (.int .i64 0)
    | some (.slice _), .vec id => match hget h id with
     | .vec _ c => pureOut (.int .i64 c.len)
     | _ => none
    | some (.map _ _), .map id => match hget h id with
     | .map m => pureOut (.int .i64 m.es.length)
     | .vols es _ => pureOut (.int .i64 es.length)
     | _ => none
    | some (.map _ _), .nilm => pureOut (.int .i64 0)
    | some (.map _ _), .mapq b id n => evLenV h (.mapq b id n)
    | _, _ => none
   | _, _ => none
  | .builtin .max => match c.args.toList.map (opd t) with
   | [.int k a, .int k' b] => if k = k' then pureOut (.int k (if b > a then b else a)) else none
   | _ => none
  | .builtin .min => match c.args.toList.map (opd t) with
   | [.int k a, .int k' b] => if k = k' then pureOut (.int k (if b < a then b else a)) else none
   | _ => none
  | .builtin .append => match c.args[0]?, c.args[1]?, c.argTypes[0]?, c.argTypes[1]? with
   | some x, some y, some ty, some tx => if c.args.size = 2 ∧ c.argTypes.size = 2 then evAppend E t h nid ty tx x y else none
   | _, _, _, _ => none
  | .builtin .delete => match c.args[0]?, c.args[1]?, c.argTypes[0]? with
   | some x, some y, some ty => orV (evDelete E t h ty x y) (evDeleteV E t h ty x y)
   | _, _, _ => none
  | .value f => match opd t f with
   | .fn g cap => evCall' E g (c.args.toList.map (opd t)) cap h nid
   | _ => none
  | _ => none
 | .buildSlice ty len ps => evBuildSlice E t nid ty len ps.toList
 | .makeSlice ty l c => evMakeSlice E t nid ty l c
 | .slice ty x lo hi none => evSlice E t h ty x lo hi
 | .makeMap ty none => orV (evMakeMap E nid ty) (evMakeVols E nid ty)
 | .lookup ty x y ok => orV (evLookup E t h ty x y ok) (evLookupV E t h nid ty x y ok)
 | .mapUpdate ty x y z | .insert ty x y z => orV (evUpdate E t h ty x y z) (evUpdateV E t h ty x y z)
 | _ => none
def slotCells (t : List AV) (oo : Oper) : List AV := match oo.op with
 | .buildSlice _ _ ps => ps.toList.flatMap fun p => (opd t p.2).cells
 | .store _ _ x => (opd t x).cells
 | _ => []
def coerceC (h : List AObj) : AV → AV
 | .agg cs => .agg (cs.map (coerce h))
 | x => coerce h x
def evOpF (E : Env) (t : List AV) (h : List AObj) (nid : Nat) (oo : Oper) : Option Out :=
 match evOp E t h nid oo with
 | some o => some o
 | none => match slotCells t oo with
  | [] => none
  | cs => match evOp E (t.map (coerceC (applyEff h (frzOf h cs)))) (applyEff h (frzOf h cs)) nid oo with
   | some (x, effs, need) => some (x, frzOf h cs ++ effs, need)
   | none => none
end Go.Eng
end
