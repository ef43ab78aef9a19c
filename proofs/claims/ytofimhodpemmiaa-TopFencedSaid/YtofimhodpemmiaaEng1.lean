/- The engine, part 1: states; what an operation does to one. -/
import Derived.Test.YtofimhodpemmiaaEng0
namespace Go.Eng
open Go.RowKit (Below)

inductive AObj where
  | dead
  | cells (t : TypeId) (cs : List AV)
  | vec (c : Coll)
  | map (es : List (AV × AV))
  deriving Inhabited

def hget (h : List AObj) (id : Nat) : AObj := h.getD id .dead
def hset : List AObj → Nat → AObj → List AObj
  | [], 0, o => [o]
  | [], n + 1, o => .dead :: hset [] n o
  | _ :: l, 0, o => o :: l
  | x :: l, n + 1, o => x :: hset l n o
theorem hget_hset (h : List AObj) (i j : Nat) (o : AObj) : hget (hset h i o) j = if i = j then o else hget h j := by
  induction i generalizing h j with
  | zero => cases h <;> cases j <;> simp [hset, hget]
  | succ n ih =>
    cases h with
    | nil =>
      cases j with
      | zero => simp [hset, hget]
      | succ j => have := ih [] j; simp [hset, hget] at this ⊢; rw [this]
    | cons x l =>
      cases j with
      | zero => simp [hset, hget]
      | succ j => have := ih l j; simp [hset, hget] at this ⊢; rw [this]
theorem length_hset (h : List AObj) (i : Nat) (o : AObj) : (hset h i o).length = max h.length (i + 1) := by
  induction i generalizing h with
  | zero => cases h <;> simp [hset]
  | succ n ih => cases h <;> simp [hset, ih] <;> omega

structure St where
  t : List AV
  h : List AObj
def St.get (s : St) (i : Nat) : AV := s.t.getD i .unk

/-! ### Types -/
section
variable (P : Program)
def tsize (t : TypeId) : Nat := match P.info? t with | some i => i.size | none => 0
def tagg (t : TypeId) : Bool := match P.underlying t with | some (.struct _) | some (.array _ _) => true | _ => false
def av1 : Value → AV
  | .int k n => .int k n
  | .bool b => .bool b
  | .string s => .str s
  | .pointer none => .nilp
  | .slice none 0 0 => .nils
  | .nilFunc => .nilf
  | .map none => .nilm
  | .nilIface => .nili
  | _ => .unk
def avOf : Value → AV
  | .agg cs => .agg (cs.toList.map av1)
  | v => av1 v
def tzero (t : TypeId) : Option AV := (P.info? t).bind fun i => i.zero.map avOf
end
def AV.cells : AV → List AV
  | .agg cs => cs
  | x => [x]
/-- One cell holds it. -/
def AV.one : AV → Bool
  | .unk | .agg _ | .tup _ | .grd .. => false
  | _ => true
def splice (cs : List AV) : Nat → List AV → List AV
  | 0, vs => vs ++ cs.drop vs.length
  | n + 1, vs => match cs with
    | [] => []
    | c :: cs => c :: splice cs n vs
/-- A slice whose elements are known, as what is read. -/
def coerce (h : List AObj) : AV → AV
  | .vec id => match hget h id with | .vec c => .coll c | _ => .unk
  | x => x

/-! ### Elements that are put into a slice -/
def decStrs : AV → Option (List ByteArray)
  | .coll (.strs xs) => some xs
  | .nils => some []
  | _ => none
def decObj : List AV → Option XObj
  | [.int .u8 kind, .str name, .int .u64 version, .int .u64 born, .bool deleting, .bool hold, .str cls, .int .i64 size, .int .i64 got, .int .u8 mode,
     .bool keep, .bool wait, .str zone, .str node, .str claim, .str volume, .str source, .int .u8 phase, .int .u64 num, .int .u64 tag] =>
    some ⟨kind, name, version, born, deleting, hold, cls, size, got, mode, keep, wait, zone, node, claim, volume, source, phase, num, tag⟩
  | _ => none
def decCall : List AV → Option XCall
  | [.int .u8 verb, .str target, .int .u64 num, .int .i64 size, .str zone, .str node, .str source] => some ⟨verb, target, num, size, zone, node, source⟩
  | _ => none
def decAsk : List AV → Option XAsk
  | [.str who, .int .u64 now, .int .u64 span] => some ⟨who, now, span⟩
  | _ => none
def decLabel : List AV → Option XLabel
  | [.str k, .str v] => some ⟨k, v⟩
  | _ => none
def decTerm : List AV → Option XTerm
  | [.str k, v] => (decStrs v).map fun xs => ⟨k, xs⟩
  | _ => none
def decZone : List AV → Option XZone
  | [.str n, .int .i64 r] => some ⟨n, r⟩
  | _ => none
def decVol : List AV → Option XVol
  | [.str n, .int .i64 s, .str z, .int .u64 g, v] => (decStrs v).map fun xs => ⟨n, s, z, g, xs⟩
  | _ => none
def decSnap : List AV → Option XSnap
  | [.str n, .int .i64 s, .int .u64 g] => some ⟨n, s, g⟩
  | _ => none
def Coll.push (c : Coll) (e : List AV) : Option Coll :=
  match c with
  | .ints k xs => match e with | [.int k' n] => if k = k' then some (.ints k (xs ++ [n])) else none | _ => none
  | .bools xs => match e with | [.bool b] => some (.bools (xs ++ [b])) | _ => none
  | .strs xs => match e with | [.str s] => some (.strs (xs ++ [s])) | _ => none
  | .objs xs => (decObj e).map fun o => .objs (xs ++ [o])
  | .calls xs => (decCall e).map fun o => .calls (xs ++ [o])
  | .asks xs => (decAsk e).map fun o => .asks (xs ++ [o])
  | .labels xs => (decLabel e).map fun o => .labels (xs ++ [o])
  | .terms xs => (decTerm e).map fun o => .terms (xs ++ [o])
  | .zones xs => (decZone e).map fun o => .zones (xs ++ [o])
  | .vols xs => (decVol e).map fun o => .vols (xs ++ [o])
  | .snaps xs => (decSnap e).map fun o => .snaps (xs ++ [o])
def Coll.append : Coll → Coll → Option Coll
  | .ints k xs, .ints k' ys => if k = k' then some (.ints k (xs ++ ys)) else none
  | .bools xs, .bools ys => some (.bools (xs ++ ys))
  | .strs xs, .strs ys => some (.strs (xs ++ ys))
  | .objs xs, .objs ys => some (.objs (xs ++ ys))
  | .calls xs, .calls ys => some (.calls (xs ++ ys))
  | .asks xs, .asks ys => some (.asks (xs ++ ys))
  | .labels xs, .labels ys => some (.labels (xs ++ ys))
  | .terms xs, .terms ys => some (.terms (xs ++ ys))
  | .zones xs, .zones ys => some (.zones (xs ++ ys))
  | .vols xs, .vols ys => some (.vols (xs ++ ys))
  | .snaps xs, .snaps ys => some (.snaps (xs ++ ys))
  | _, _ => none
def Coll.sub (lo hi : Nat) : Coll → Coll
  | .ints k xs => .ints k ((xs.take hi).drop lo)
  | .bools xs => .bools ((xs.take hi).drop lo)
  | .strs xs => .strs ((xs.take hi).drop lo)
  | .objs xs => .objs ((xs.take hi).drop lo)
  | .calls xs => .calls ((xs.take hi).drop lo)
  | .asks xs => .asks ((xs.take hi).drop lo)
  | .labels xs => .labels ((xs.take hi).drop lo)
  | .terms xs => .terms ((xs.take hi).drop lo)
  | .zones xs => .zones ((xs.take hi).drop lo)
  | .vols xs => .vols ((xs.take hi).drop lo)
  | .snaps xs => .snaps ((xs.take hi).drop lo)

/-! ### What a function is known to do -/
abbrev Eff := List (Nat × AObj)
abbrev Out := AV × Eff × List Prop
structure Env where
  P : Program
  /-- function, arguments, the objects, the next object's number: the result, the objects that turn, what must hold -/
  K : FuncId → List AV → List AObj → Nat → Option Out
  /-- a function that comes back with nothing where the Bool holds, and panics with the value where not -/
  KP : FuncId → List AV → Option (Bool × Value)
  /-- a function that comes back in one of two ways -/
  KB : FuncId → List AV → List AObj → Nat → Option (Bool × Out × Out)
  /-- the empty slice of an element type -/
  ck : TypeId → Option Coll

def opd (t : List AV) : Operand → AV
  | .tmp i => t.getD i .unk
  | .const v => avOf v
  | .func f => .fn f []
  | .global _ => .unk

/-! ### Equality -/
def eqOne : AV → AV → Option Bool
  | .int k a, .int k' b => if k = k' then some (a == b) else none
  | .bool a, .bool b => some (a == b)
  | .str a, .str b => some (decide (a = b))
  | _, _ => none
def tkindOk (P : Program) (t : TypeId) : AV → Bool
  | .int .. => match P.underlying t with | some (.int _) => true | _ => false
  | .bool _ => match P.underlying t with | some .bool => true | _ => false
  | .str _ => match P.underlying t with | some .string => true | _ => false
  | _ => false
def seg (P : Program) (f : Field) (xs : List AV) : List AV := (xs.drop f.offset).take (tsize P f.type)
def eqFs (eq : TypeId → List AV → List AV → Option Bool) (P : Program) : List Field → List AV → List AV → Option Bool
  | [], _, _ => some true
  | [f], xs, ys => if f.name == "_" then none else eq f.type (seg P f xs) (seg P f ys)
  | f :: g :: fs, xs, ys => if f.name == "_" then none else match eq f.type (seg P f xs) (seg P f ys), eqFs eq P (g :: fs) xs ys with
    | some a, some b => some (a && b)
    | _, _ => none
/-- Two values of type t, by their cells. -/
def eqTy (P : Program) : Nat → TypeId → List AV → List AV → Option Bool
  | 0, _, _, _ => none
  | d + 1, t, xs, ys => match xs, ys with
    | [x], [y] => if !tagg P t && tkindOk P t x then eqOne x y else none
    | xs, ys => match P.underlying t with
      | some (.struct fs) => if P.stoodInHeld t then none else if xs.length == tsize P t && ys.length == tsize P t && (P.info? t).isSome then eqFs (eqTy P d) P fs.toList xs ys else none
      | _ => none
def eqAV (P : Program) (t : TypeId) (x y : AV) : Option Bool :=
  match x, y with
  | .agg xs, .agg ys => if P.eqGuardType P.depth t then none else match P.underlying t with
    | some (.struct fs) => if P.stoodInHeld t then none else eqFs (eqTy P 4) P fs.toList xs ys
    | _ => none
  | .nilp, .nilp => match P.underlying t with | some (.pointer _) => some true | _ => none
  | .ptr .., .nilp => match P.underlying t with | some (.pointer _) => some false | _ => none
  | .bool a, .bool b => match P.underlying t with | some .bool => some (a == b) | _ => none
  | .int k a, .int k' b => if k = k' then some (a == b) else none
  | .str a, .str b => some (decide (a = b))
  | _, _ => none
def strLess (a b : ByteArray) : Bool := Op.bytesLess a.toList b.toList
def evBin (P : Program) (op : BinOp) (t : TypeId) (x y : AV) : Option (AV × List Prop) :=
  match op, x, y with
  | .add, .int k a, .int k' b => if k = k' then some (.int k (k.wrap (a + b)), []) else none
  | .sub, .int k a, .int k' b => if k = k' then some (.int k (k.wrap (a - b)), []) else none
  | .mul, .int k a, .int k' b => if k = k' then some (.int k (k.wrap (a * b)), []) else none
  | .quo, .int k a, .int k' b => if k = k' then some (.int k (k.wrap (a.tdiv b)), [b ≠ 0]) else none
  | .rem, .int k a, .int k' b => if k = k' then some (.int k (a.tmod b), [b ≠ 0]) else none
  | .lss, .int k a, .int k' b => if k = k' then some (.bool (decide (a < b)), []) else none
  | .leq, .int k a, .int k' b => if k = k' then some (.bool (decide (a ≤ b)), []) else none
  | .gtr, .int k a, .int k' b => if k = k' then some (.bool (decide (a > b)), []) else none
  | .geq, .int k a, .int k' b => if k = k' then some (.bool (decide (a ≥ b)), []) else none
  | .add, .str a, .str b => some (.str (a ++ b), [a.size + b.size ≤ 9223372036854775807])
  | .lss, .str a, .str b => some (.bool (strLess a b), [])
  | .gtr, .str a, .str b => some (.bool (!(strLess a b || decide (a = b))), [])
  | .leq, .str a, .str b => some (.bool (strLess a b || decide (a = b)), [])
  | .geq, .str a, .str b => some (.bool (!strLess a b), [])
  | .eql, x, y => (eqAV P t x y).map fun b => (.bool b, [])
  | .neq, x, y => (eqAV P t x y).map fun b => (.bool (!b), [])
  | _, _, _ => none

def pureOut (x : AV) : Option Out := some (x, [], [])
def fieldOff (P : Program) (s : TypeId) (f : Nat) : Option (Nat × TypeId) :=
  match P.underlying s with
  | some (.struct fs) => (fs[f]?).map fun x => (x.offset, x.type)
  | _ => none
def placesOf (P : Program) (t : TypeId) : Option (List (Nat × Nat)) :=
  match P.underlying t with
  | some (.struct fs) => if fs.toList.all fun f => (P.info? f.type).isSome then some (fs.toList.map fun f => (f.offset, tsize P f.type)) else none
  | _ => none
def fillAV (pl : List (Nat × Nat)) : List AV → List (Nat × AV) → Option (List AV)
  | cs, [] => some cs
  | cs, (i, x) :: r => match pl[i]? with
    | some (off, n) => if x.cells.length = n ∧ off + n ≤ cs.length then fillAV pl (splice cs off x.cells) r else none
    | none => none
def byteAt (s : ByteArray) (i : Int) : Int := ((s.data.getD i.toNat 0).toNat : Int)
def loadFrom (P : Program) (t : TypeId) (cs : List AV) (off : Nat) : Option AV :=
  if (P.underlying t).isSome && (P.info? t).isSome then
    if tagg P t then (if off + tsize P t ≤ cs.length then some (.agg ((cs.drop off).take (tsize P t))) else none)
    else cs[off]?
  else none

def evOp (E : Env) (t : List AV) (h : List AObj) (nid : Nat) (o : Op) : Option Out :=
  match o with
  | .move x | .assign x => pureOut (opd t x)
  | .alloc e => match tzero E.P e with
    | some z => some (.ptr nid 0, [(nid, .cells e z.cells)], [])
    | none => none
  | .box e x => let v := opd t x
    if v.cells.all AV.one then some (.ptr nid 0, [(nid, .cells e v.cells)], []) else none
  | .build ty ps => match tzero E.P ty, placesOf E.P ty with
    | some (.agg z), some pl => if ps.toList.all fun p => (opd t p.2).cells.all AV.one then
        match fillAV pl z (ps.toList.map fun p => (p.1, opd t p.2)) with
        | some cs => pureOut (.agg cs)
        | none => none
      else none
    | _, _ => none
  | .load ty a => match opd t a with
    | .ptr id off => match hget h id with
      | .cells _ cs => (loadFrom E.P ty cs off).bind pureOut
      | _ => none
    | .ep c i off => (loadFrom E.P ty (c.get i) off).bind pureOut
    | _ => none
  | .store ty a x => let v := opd t x
    match opd t a with
    | .ptr id off => match hget h id with
      | .cells ct cs => if (E.P.info? ty).isSome ∧ v.cells.length = tsize E.P ty ∧ off + v.cells.length ≤ cs.length ∧ v.cells.all AV.one then some (.unk, [(id, .cells ct (splice cs off v.cells))], []) else none
      | _ => none
    | _ => none
  | .nilCheck x => match opd t x with
    | .ptr id off => pureOut (.ptr id off)
    | .ep c i off => pureOut (.ep c i off)
    | .fn f cap => pureOut (.fn f cap)
    | _ => none
  | .binOp op ty x y _ => (evBin E.P op ty (opd t x) (opd t y)).map fun r => (r.1, [], r.2)
  | .unOp .not _ x => match opd t x with
    | .bool b => pureOut (.bool (!b))
    | _ => none
  | .unOp .neg _ x => match opd t x with
    | .int k n => pureOut (.int k (k.wrap (0 - n)))
    | _ => none
  | .convert src dst x => match E.P.underlying src, E.P.underlying dst, opd t x with
    | some (.int _), some (.int k), .int _ n => pureOut (.int k (k.wrap n))
    | some .string, some .string, .str s => pureOut (.str s)
    | _, _, _ => none
  | .makeFunc (.func f) first cap => if first.size = 0 then pureOut (.fn f (cap.toList.map (opd t))) else none
  | .makeInterface ty x => match E.P.underlying ty with
    | some (.interface _) => none
    | some _ => pureOut (.iface ty (opd t x))
    | none => none
  | .fieldAddr s x f => match fieldOff E.P s f with
    | some (off, ft) => if tsize E.P ft = 0 then none else match opd t x with
      | .ptr id o => pureOut (.ptr id (o + off))
      | .ep c i o => if o + off ≤ c.esz then pureOut (.ep c i (o + off)) else none
      | _ => none
    | none => none
  | .field s x f => match fieldOff E.P s f, opd t x with
    | some (off, ft), .agg cs => (loadFrom E.P ft cs off).bind pureOut
    | _, _ => none
  | .indexAddr ty x ix => match E.P.underlying ty, coerce h (opd t x), opd t ix with
    | some (.slice e), .coll c, .int _ i => if (E.P.info? e).isSome ∧ tsize E.P e = c.esz then some (.ep c i.toNat 0, [], [0 ≤ i ∧ i < c.len]) else none
    | _, _, _ => none
  | .index ty x ix => match E.P.underlying ty, opd t x, opd t ix with
    | some .string, .str s, .int _ i => some (.int .u8 (byteAt s i), [], [0 ≤ i ∧ i < s.size])
    | _, _, _ => none
  | .extract x ix => match opd t x with
    | .tup vs => (vs[ix]?).bind pureOut
    | _ => none
  | .call c => match c.callee with
    | .builtin .len => match c.argTypes[0]?, c.args[0]? with
      | some ty, some x => match E.P.underlying ty, coerce h (opd t x) with
        | some .string, .str s => pureOut (.int .i64 s.size)
        | some (.slice _), .coll c => pureOut (.int .i64 c.len)
        | some (.slice _), .nils => pureOut (.int .i64 0)
        | _, _ => none
      | _, _ => none
    | .builtin .max => match c.args.toList.map (opd t) with
      | [.int k a, .int k' b] => if k = k' then pureOut (.int k (if b > a then b else a)) else none
      | _ => none
    | .builtin .min => match c.args.toList.map (opd t) with
      | [.int k a, .int k' b] => if k = k' then pureOut (.int k (if b < a then b else a)) else none
      | _ => none
    | .value f => match opd t f with
      | .fn g cap => E.K g ((c.args.toList.map fun x => coerce h (opd t x)) ++ cap) h nid
      | _ => none
    | _ => none
  | _ => none
end Go.Eng
