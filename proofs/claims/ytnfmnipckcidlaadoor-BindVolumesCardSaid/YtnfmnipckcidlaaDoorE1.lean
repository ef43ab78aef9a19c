/- The engine, part 1: states; what an operation does to one. -/
import Derived.Test.YtnfmnipckcidlaaDoorE0
set_option linter.unusedVariables false
set_option linter.unusedSimpArgs false
namespace Go.Eng
open Go.RowKit (Below)

/-- A map, by its entries in their order. -/
structure MapC where
  k : Kind
  v : Kind
  es : List (k.Ty × v.Ty)
instance : Inhabited MapC := ⟨⟨.bool, .bool, []⟩⟩
inductive AObj where
  | dead
  | cells (t : TypeId) (cs : List AV)
  /-- a slice of its own; frz: nobody writes its elements any more -/
  | vec (frz : Bool) (c : Coll)
  | map (m : MapC)
  /-- a string's iterator -/
  | iter (s : ByteArray) (pos : Nat)
  /-- the record of a range over a function: which, the temporaries, the jump that is pending -/
  | loop (site : Nat) (t : List AV) (pd : Option Code)
  deriving Inhabited

def hget (h : List AObj) (id : Nat) : AObj := h.getD id .dead
def hset : List AObj → Nat → AObj → List AObj
  | [], 0, o => [o]
  | [], n + 1, o => .dead :: hset [] n o
  | _ :: l, 0, o => o :: l
  | x :: l, n + 1, o => x :: hset l n o
theorem hget_hset (h : List AObj) (i j : Nat) (o : AObj) : hget (hset h i o) j = if i = j then o else hget h j := by
  induction i generalizing h j with
  | zero => cases h <;> cases j <;> simp [hset, hget]
  | succ n ih =>
    cases h with
    | nil =>
      cases j with
      | zero => simp [hset, hget]
      | succ j => have := ih [] j; simp [hset, hget] at this ⊢; rw [this]
    | cons x l =>
      cases j with
      | zero => simp [hset, hget]
      | succ j => have := ih l j; simp [hset, hget] at this ⊢; rw [this]
theorem length_hset (h : List AObj) (i : Nat) (o : AObj) : (hset h i o).length = max h.length (i + 1) := by
  induction i generalizing h with
  | zero => cases h <;> simp [hset]
  | succ n ih => cases h <;> simp [hset, ih] <;> omega

structure St where
  t : List AV
  h : List AObj
def St.get (s : St) (i : Nat) : AV := s.t.getD i .unk

/-! ### Types -/
section
variable (P : Program)
def tsize (t : TypeId) : Nat := match P.info? t with | some i => i.size | none => 0
def tagg (t : TypeId) : Bool := match P.underlying t with | some (.struct _) | some (.array _ _) => true | _ => false
def av1 : Value → AV
  | .int k n => .int k n
  | .bool b => .bool b
  | .string s => .str s
  | .pointer none => .nilp
  | .slice none 0 0 => .nils
  | .nilFunc => .nilf
  | .map none => .nilm
  | .nilIface => .nili
  | _ => .unk
def avOf : Value → AV
  | .agg cs => .agg (cs.toList.map av1)
  | v => av1 v
def tzero (t : TypeId) : Option AV := (P.info? t).bind fun i => i.zero.map avOf
end
def AV.cells : AV → List AV
  | .agg cs => cs
  | x => [x]
/-- One cell holds it. -/
def AV.one : AV → Bool
  | .unk | .agg _ | .tup _ | .nxt .. | .grd .. => false
  | _ => true
def splice (cs : List AV) : Nat → List AV → List AV
  | 0, vs => vs ++ cs.drop vs.length
  | n + 1, vs => match cs with
    | [] => []
    | c :: cs => c :: splice cs n vs
/-- A slice whose elements are known, as what is read. -/
def coerce (h : List AObj) : AV → AV
  | .vec id => match hget h id with | .vec true c => .coll c | _ => .vec id
  | x => x
/-- Any slice whose elements are known. -/
def coerceF (h : List AObj) : AV → AV
  | .vec id => match hget h id with | .vec _ c => .coll c | _ => .vec id
  | x => x
/-- What must be let go of, that a slice may be read so. -/
def frzOf (h : List AObj) : List AV → List (Nat × AObj)
  | [] => []
  | .vec id :: xs => match hget h id with | .vec false c => (id, .vec true c) :: frzOf h xs | _ => frzOf h xs
  | _ :: xs => frzOf h xs

/-! ### Elements that are put into a slice, a map -/
def decStrs : AV → Option (List ByteArray)
  | .coll ⟨.str, xs⟩ => some xs
  | .nils => some []
  | _ => none
def decLabels : AV → Option (List XLabel)
  | .coll ⟨.label, xs⟩ => some xs
  | .nils => some []
  | _ => none
def decTerms : AV → Option (List XTerm)
  | .coll ⟨.term, xs⟩ => some xs
  | .nils => some []
  | _ => none
def decObj : List AV → Option XObj
  | [.int .u8 kind, .str name, .int .u64 version, .int .u64 born, .bool deleting, .bool hold, .str cls, .int .i64 size, .int .i64 got, .int .u8 mode,
     .bool keep, .bool wait, .str zone, .str node, .str claim, .str volume, .str source, .int .u8 phase, .int .u64 num, .int .u64 tag] =>
    some ⟨kind, name, version, born, deleting, hold, cls, size, got, mode, keep, wait, zone, node, claim, volume, source, phase, num, tag⟩
  | _ => none
def decCall : List AV → Option XCall
  | [.int .u8 verb, .str target, .int .u64 num, .int .i64 size, .str zone, .str node, .str source] => some ⟨verb, target, num, size, zone, node, source⟩
  | _ => none
def decRes : List AV → Option XRes
  | [.int .i64 err, .int .i64 size, .str zone, .int .u64 tag] => some ⟨err, size, zone, tag⟩
  | _ => none
def Kind.dec : (k : Kind) → List AV → Option k.Ty
  | .int k, l => match l with | [.int k' n] => if k = k' then some n else none | _ => none
  | .bool, l => match l with | [.bool b] => some b | _ => none
  | .str, l => match l with | [.str s] => some s | _ => none
  | .obj, l => decObj l
  | .call, l => decCall l
  | .ask, l => match l with | [.str who, .int .u64 now, .int .u64 span] => some ⟨who, now, span⟩ | _ => none
  | .label, l => match l with | [.str k, .str v] => some ⟨k, v⟩ | _ => none
  | .term, l => match l with | [.str k, v] => (decStrs v).map fun xs => ⟨k, xs⟩ | _ => none
  | .zone, l => match l with | [.str n, .int .i64 r] => some ⟨n, r⟩ | _ => none
  | .vol, l => match l with | [.str n, .int .i64 s, .str z, .int .u64 g, v] => (decStrs v).map fun xs => ⟨n, s, z, g, xs⟩ | _ => none
  | .snap, l => match l with | [.str n, .int .i64 s, .int .u64 g] => some ⟨n, s, g⟩ | _ => none
  | .sn, l => match l with | [.int .i64 s, .int .u64 g] => some ⟨s, g⟩ | _ => none
  | .done, l => match decCall (l.take 7), decRes (l.drop 7) with | some c, some r => some ⟨c, r⟩ | _, _ => none
  | .deed, l => match decCall (l.take 7), l.drop 7 with | some c, [.int .u64 t] => some ⟨c, t⟩ | _, _ => none
  | .deed2, l => match decCall (l.take 7), l.drop 7 with | some c, [.int .u8 o, .int .u64 t, .bool a, .int .i64 i] => some ⟨c, o, t, a, i⟩ | _, _ => none
  | .key, l => match l with | [.int .u8 k, .str n] => some ⟨k, n⟩ | _ => none
  | .tgt, l => match l with | [.bool s, .str n] => some ⟨s, n⟩ | _ => none
  | .event, l => match l.take 2, decObj (l.drop 2) with | [.int .u64 v, .bool g], some o => some ⟨v, g, o⟩ | _, _ => none
  | .strs, l => match l with | [x] => decStrs x | _ => none
  | .labels, l => match l with | [x] => decLabels x | _ => none
  | .terms, l => match l with | [x] => decTerms x | _ => none
/-- An element, as a value. -/
def Kind.av (k : Kind) (x : k.Ty) : AV := if k.isAgg then .agg (k.enc x) else (k.enc x).headD .unk
def Coll.set (c : Coll) (i : Nat) (x : c.k.Ty) : Coll := ⟨c.k, c.xs.set i x⟩
def Coll.sub (lo hi : Nat) (c : Coll) : Coll := ⟨c.k, (c.xs.take hi).drop lo⟩
def Coll.append (c d : Coll) : Option Coll := if h : d.k = c.k then some ⟨c.k, c.xs ++ h ▸ d.xs⟩ else none

/-! ### Maps -/
def Kind.eqb : (k : Kind) → k.Ty → k.Ty → Bool
  | .int _, x, y => (x : Int) == y
  | .bool, x, y => (x : Bool) == y
  | .str, x, y => decide ((x : ByteArray) = y)
  | .key, x, y => (x : XKey).kind == y.kind && decide (x.name = y.name)
  | .tgt, x, y => (x : XTgt).snap == y.snap && decide (x.name = y.name)
  | _, _, _ => false
def mget {k v : Kind} (es : List (k.Ty × v.Ty)) (x : k.Ty) : Option v.Ty := match es with
  | [] => none
  | e :: r => if k.eqb x e.1 then some e.2 else mget r x
def mset {k v : Kind} (es : List (k.Ty × v.Ty)) (x : k.Ty) (y : v.Ty) : List (k.Ty × v.Ty) := match es with
  | [] => [(x, y)]
  | e :: r => if k.eqb x e.1 then (x, y) :: r else e :: mset r x y
def mdel {k v : Kind} (es : List (k.Ty × v.Ty)) (x : k.Ty) : List (k.Ty × v.Ty) := match es with
  | [] => []
  | e :: r => if k.eqb x e.1 then r else e :: mdel r x

/-! ### What a function is known to do -/
abbrev Eff := List (Nat × AObj)
abbrev Out := AV × Eff × List Prop
/-- How a round of a range over a function comes back. -/
inductive YB where
  | one (x : Out)
  | two (b : Bool) (x y : Out)
structure Env where
  P : Program
  /-- function, arguments, the objects, the next object's number: the result, the objects that turn, what must hold -/
  K : FuncId → List AV → List AObj → Nat → Option Out
  /-- a function that comes back with nothing where the Bool holds, and panics with the value where not -/
  KP : FuncId → List AV → Option (Bool × Value)
  /-- a function that comes back in one of two ways -/
  KB : FuncId → List AV → List AObj → Nat → Option (Bool × Out × Out)
  /-- a call of yield -/
  Y : List AV → List AObj → Nat → Option YB
  /-- the kind of a type -/
  ck : TypeId → Option Kind
  /-- are the function's own new slices written to? -/
  wr : Bool

def opd (t : List AV) : Operand → AV
  | .tmp i => t.getD i .unk
  | .const v => avOf v
  | .func f => .fn f []
  | .global _ => .unk

/-! ### Equality -/
def eqOne : AV → AV → Option Bool
  | .int k a, .int k' b => if k = k' then some (a == b) else none
  | .bool a, .bool b => some (a == b)
  | .str a, .str b => some (decide (a = b))
  | _, _ => none
def tkindOk (P : Program) (t : TypeId) : AV → Bool
  | .int .. => match P.underlying t with | some (.int _) => true | _ => false
  | .bool _ => match P.underlying t with | some .bool => true | _ => false
  | .str _ => match P.underlying t with | some .string => true | _ => false
  | _ => false
def seg (P : Program) (f : Field) (xs : List AV) : List AV := (xs.drop f.offset).take (tsize P f.type)
def eqFs (eq : TypeId → List AV → List AV → Option Bool) (P : Program) : List Field → List AV → List AV → Option Bool
  | [], _, _ => some true
  | [f], xs, ys => if f.name == "_" then none else eq f.type (seg P f xs) (seg P f ys)
  | f :: g :: fs, xs, ys => if f.name == "_" then none else match eq f.type (seg P f xs) (seg P f ys), eqFs eq P (g :: fs) xs ys with
    | some a, some b => some (a && b)
    | _, _ => none
/-- Two values of type t, by their cells. -/
def eqTy (P : Program) : Nat → TypeId → List AV → List AV → Option Bool
  | 0, _, _, _ => none
  | d + 1, t, xs, ys => match xs, ys with
    | [x], [y] => if !tagg P t && tkindOk P t x then eqOne x y else none
    | xs, ys => match P.underlying t with
      | some (.struct fs) => if P.stoodInHeld t then none else if xs.length == tsize P t && ys.length == tsize P t && (P.info? t).isSome then eqFs (eqTy P d) P fs.toList xs ys else none
      | _ => none
def eqAV (P : Program) (t : TypeId) (x y : AV) : Option Bool :=
  match x, y with
  | .agg xs, .agg ys => if P.eqGuardType P.depth t then none else match P.underlying t with
    | some (.struct fs) => if P.stoodInHeld t then none else eqFs (eqTy P 4) P fs.toList xs ys
    | _ => none
  | .nilp, .nilp => match P.underlying t with | some (.pointer _) => some true | _ => none
  | .ptr .., .nilp => match P.underlying t with | some (.pointer _) => some false | _ => none
  | .bool a, .bool b => match P.underlying t with | some .bool => some (a == b) | _ => none
  | .int k a, .int k' b => if k = k' then some (a == b) else none
  | .str a, .str b => some (decide (a = b))
  | _, _ => none
def strLess (a b : ByteArray) : Bool := Op.bytesLess a.toList b.toList
def evBin (P : Program) (op : BinOp) (t : TypeId) (x y : AV) : Option (AV × List Prop) :=
  match op, x, y with
  | .add, .int k a, .int k' b => if k = k' then some (.int k (k.wrap (a + b)), []) else none
  | .sub, .int k a, .int k' b => if k = k' then some (.int k (k.wrap (a - b)), []) else none
  | .mul, .int k a, .int k' b => if k = k' then some (.int k (k.wrap (a * b)), []) else none
  | .quo, .int k a, .int k' b => if k = k' then some (.int k (k.wrap (a.tdiv b)), [b ≠ 0]) else none
  | .rem, .int k a, .int k' b => if k = k' then some (.int k (a.tmod b), [b ≠ 0]) else none
  | .lss, .int k a, .int k' b => if k = k' then some (.bool (decide (a < b)), []) else none
  | .leq, .int k a, .int k' b => if k = k' then some (.bool (decide (a ≤ b)), []) else none
  | .gtr, .int k a, .int k' b => if k = k' then some (.bool (decide (a > b)), []) else none
  | .geq, .int k a, .int k' b => if k = k' then some (.bool (decide (a ≥ b)), []) else none
  | .add, .str a, .str b => some (.str (a ++ b), [a.size + b.size ≤ 9223372036854775807])
  | .lss, .str a, .str b => some (.bool (strLess a b), [])
  | .gtr, .str a, .str b => some (.bool (!(strLess a b || decide (a = b))), [])
  | .leq, .str a, .str b => some (.bool (strLess a b || decide (a = b)), [])
  | .geq, .str a, .str b => some (.bool (!strLess a b), [])
  | .eql, x, y => (eqAV P t x y).map fun b => (.bool b, [])
  | .neq, x, y => (eqAV P t x y).map fun b => (.bool (!b), [])
  | _, _, _ => none

def pureOut (x : AV) : Option Out := some (x, [], [])
def fieldOff (P : Program) (s : TypeId) (f : Nat) : Option (Nat × TypeId) :=
  match P.underlying s with
  | some (.struct fs) => (fs[f]?).map fun x => (x.offset, x.type)
  | _ => none
def placesOf (P : Program) (t : TypeId) : Option (List (Nat × Nat)) :=
  match P.underlying t with
  | some (.struct fs) => if fs.toList.all fun f => (P.info? f.type).isSome then some (fs.toList.map fun f => (f.offset, tsize P f.type)) else none
  | _ => none
def fillAV (pl : List (Nat × Nat)) : List AV → List (Nat × AV) → Option (List AV)
  | cs, [] => some cs
  | cs, (i, x) :: r => match pl[i]? with
    | some (off, n) => if x.cells.length = n ∧ off + n ≤ cs.length then fillAV pl (splice cs off x.cells) r else none
    | none => none
def byteAt (s : ByteArray) (i : Int) : Int := ((s.data.getD i.toNat 0).toNat : Int)
def loadFrom (P : Program) (t : TypeId) (cs : List AV) (off : Nat) : Option AV :=
  if (P.underlying t).isSome && (P.info? t).isSome then
    if tagg P t then (if off + tsize P t ≤ cs.length then some (.agg ((cs.drop off).take (tsize P t))) else none)
    else cs[off]?
  else none

/-- Has the type the kind's make? -/
def scalarOk (P : Program) (t : TypeId) (k : Kind) : Bool := match k with
  | .int i => match P.underlying t with | some (.int j) => decide (i = j) | _ => false
  | .bool => match P.underlying t with | some .bool => true | _ => false
  | .str => match P.underlying t with | some .string => true | _ => false
  | _ => false
def kindOk (P : Program) (t : TypeId) (k : Kind) : Bool := tsize P t == k.esz && (P.info? t).isSome && (P.underlying t).isSome && tagg P t == k.isAgg
/-- A struct of two plain fields. -/
def pairOk (P : Program) (t : TypeId) (k1 k2 : Kind) : Bool := match P.underlying t with
  | some (.struct fs) => match fs.toList with
    | [f, g] => f.name != "_" && g.name != "_" && f.offset == 0 && g.offset == 1 && tsize P f.type == 1 && tsize P g.type == 1 && !tagg P f.type && !tagg P g.type && scalarOk P f.type k1 && scalarOk P g.type k2 && !P.stoodInHeld t
    | _ => false
  | _ => false
/-- May keys of the type be held against each other? -/
def keyOk (P : Program) (t : TypeId) (k : Kind) : Bool := match k with
  | .int _ | .bool | .str => scalarOk P t k
  | .key => pairOk P t (.int .u8) .str
  | .tgt => pairOk P t .bool .str
  | _ => false
/-- Is y, the zero value, what x says? -/
def sameZ : AV → AV → Bool
  | .int k n, .int k' n' => decide (k = k') && n == n'
  | .bool b, .bool b' => b == b'
  | .str s, .str s' => s.size == 0 && s'.size == 0
  | .coll c, .nils => c.len == 0
  | _, _ => false
def sameZL : List AV → List AV → Bool
  | [], [] => true
  | x :: xs, y :: ys => sameZ x y && sameZL xs ys
  | _, _ => false
def aggAV : AV → Bool
  | .agg _ => true
  | _ => false
/-- Is the type's zero value the kind's? -/
def zeroOk (P : Program) (t : TypeId) (k : Kind) : Bool := match tzero P t with
  | some z => aggAV z == k.isAgg && sameZL (k.enc default) z.cells
  | none => false
/-- The kind of a type, if it has the kind's make. -/
def kindOf (E : Env) (t : TypeId) : Option Kind := match E.ck t with
  | some k => if kindOk E.P t k then some k else none
  | none => none
def bytesOf (P : Program) (t : TypeId) : Nat := match P.info? t with | some i => i.bytes | none => 0
/-- The elements that a slice is made of. -/
def decAll (k : Kind) (t : List AV) : Nat → List (Nat × Operand) → Option (List k.Ty)
  | _, [] => some []
  | i, (j, x) :: r => if i = j then match k.dec (opd t x).cells, decAll k t (i + 1) r with
      | some y, some ys => some (y :: ys)
      | _, _ => none
    else none
/-- What is read of a slice of kind k. -/
def srcOf (h : List AObj) (k : Kind) : AV → Option Coll
  | .nils => some ⟨k, []⟩
  | .coll c => some c
  | .vec id => match hget h id with | .vec _ c => some c | _ => none
  | .vsub id esz lo hi => match hget h id with | .vec _ c => if esz = c.esz then some (c.sub lo hi) else none | _ => none
  | _ => none
/-- What is appended to: the object, if there is one. -/
def baseOf (h : List AObj) (k : Kind) (m : Bool) : AV → Option (Option Nat × Bool × Coll)
  | .nils => some (none, !m, ⟨k, []⟩)
  | .vec id => match hget h id with | .vec f c => some (some id, f, c) | _ => none
  | _ => none
/-- A nil slice is one of its own. -/
def nilVec (E : Env) (t : TypeId) (nid : Nat) : Option Out := match E.P.underlying t with
  | some (.slice e) => match E.ck e with
    | some k => some (.vec nid, [(nid, .vec (!E.wr) ⟨k, []⟩)], [])
    | none => pureOut .nils
  | _ => pureOut .nils
def isNilc : Operand → Bool
  | .const (.slice none 0 0) => true
  | _ => false
def bytesLim : Nat := 140737488355328
def boundAV (t : List AV) (d : Int) : Option Operand → Option Int
  | none => some d
  | some x => match opd t x with | .int _ i => some i | _ => none
def evSlice (E : Env) (t : List AV) (h : List AObj) (ty : TypeId) (x : Operand) (lo hi : Option Operand) : Option Out :=
  match E.P.underlying ty, coerce h (opd t x) with
  | some .string, .str s => match boundAV t 0 lo, boundAV t s.size hi with
    | some l, some r => some (.str (s.extract l.toNat r.toNat), [], [0 ≤ l ∧ l ≤ r ∧ r ≤ s.size])
    | _, _ => none
  | some (.slice e), .coll c => match boundAV t 0 lo, boundAV t c.len hi with
    | some l, some r => if (E.P.info? e).isSome ∧ tsize E.P e = c.esz then some (.coll (c.sub l.toNat r.toNat), [], [0 ≤ l ∧ l ≤ r ∧ r ≤ c.len]) else none
    | _, _ => none
  | some (.slice e), .vec id => match hget h id with
    | .vec _ c => match boundAV t 0 lo, boundAV t c.len hi with
      | some l, some r => if (E.P.info? e).isSome ∧ tsize E.P e = c.esz then some (.vsub id c.esz l.toNat r.toNat, [], [0 ≤ l ∧ l ≤ r ∧ r ≤ c.len]) else none
      | _, _ => none
    | _ => none
  | _, _ => none
def deadOf : Option Nat → Eff
  | some id => [(id, .dead)]
  | none => []
def evAppend (E : Env) (t : List AV) (h : List AObj) (nid : Nat) (ty tx : TypeId) (x y : Operand) : Option Out :=
  match E.P.underlying ty, E.P.underlying tx with
  | some (.slice e), some (.slice _) => match kindOf E e with
    | some k => if zeroOk E.P e k then match baseOf h k E.wr (opd t x), srcOf h k (opd t y) with
      | some (b, f, c), some d => match c.append d with
        | some c' => if c.k = k ∧ (∀ i, b = some i → i < nid) then some (.vec nid, deadOf b ++ [(nid, .vec f c')], [(c.len + d.len) * bytesOf E.P e ≤ bytesLim ∧ c.len + d.len ≤ maxLen]) else none
        | none => none
      | _, _ => none
      else none
    | none => none
  | _, _ => none
def Kind.decV (k : Kind) (x : AV) : Option k.Ty := if aggAV x = k.isAgg then k.dec x.cells else none
def evBuildSlice (E : Env) (t : List AV) (nid : Nat) (ty : TypeId) (len : Nat) (ps : List (Nat × Operand)) : Option Out :=
  match E.P.underlying ty with
  | some (.slice e) => match kindOf E e with
    | some k => match decAll k t 0 ps with
      | some xs => if xs.length = len ∧ len * k.esz ≤ 16777216 ∧ zeroOk E.P e k then some (.vec nid, [(nid, .vec false ⟨k, xs⟩)], []) else none
      | none => none
    | none => none
  | _ => none
def evMakeSlice (E : Env) (t : List AV) (nid : Nat) (ty : TypeId) (l c : Operand) : Option Out :=
  match E.P.underlying ty, opd t l, opd t c with
  | some (.slice e), .int _ l, .int _ c => match kindOf E e with
    | some k => if zeroOk E.P e k then some (.vec nid, [(nid, .vec (!E.wr) ⟨k, List.replicate l.toNat default⟩)], [0 ≤ l ∧ l ≤ c ∧ c * bytesOf E.P e ≤ 281474976710656 ∧ c ≤ 9223372036854775807]) else none
    | none => none
  | _, _, _ => none
def evMakeMap (E : Env) (nid : Nat) (ty : TypeId) : Option Out :=
  match E.P.underlying ty with
  | some (.map kt et) => match kindOf E kt, kindOf E et with
    | some k, some v => some (.map nid, [(nid, .map ⟨k, v, []⟩)], [])
    | _, _ => none
  | _ => none
def evLookup (E : Env) (t : List AV) (h : List AObj) (ty : TypeId) (x y : Operand) (ok : Bool) : Option Out :=
  match E.P.underlying ty, opd t x with
  | some (.map kt et), .map id => match hget h id with
    | .map m => if keyOk E.P kt m.k ∧ kindOk E.P et m.v ∧ zeroOk E.P et m.v then match m.k.decV (opd t y) with
      | some key => let r := mget m.es key
        pureOut (if ok then .tup [m.v.av (r.getD default), .bool r.isSome] else m.v.av (r.getD default))
      | none => none
      else none
    | _ => none
  | _, _ => none
def evUpdate (E : Env) (t : List AV) (h : List AObj) (ty : TypeId) (x y z : Operand) : Option Out :=
  match E.P.underlying ty, opd t x with
  | some (.map kt _), .map id => match hget h id with
    | .map m => if keyOk E.P kt m.k then match m.k.decV (opd t y), m.v.decV (opd t z) with
      | some key, some val => some (.unk, [(id, .map ⟨m.k, m.v, mset m.es key val⟩)], [])
      | _, _ => none
      else none
    | _ => none
  | _, _ => none
def evDelete (E : Env) (t : List AV) (h : List AObj) (ty : TypeId) (x y : Operand) : Option Out :=
  match E.P.underlying ty, opd t x with
  | some (.map kt _), .map id => match hget h id with
    | .map m => if keyOk E.P kt m.k then match m.k.decV (opd t y) with
      | some key => some (.tup [], [(id, .map ⟨m.k, m.v, mdel m.es key⟩)], [])
      | none => none
      else none
    | _ => none
  | _, _ => none
def applyEff (h : List AObj) (effs : Eff) : List AObj := effs.foldl (fun h p => hset h p.1 p.2) h
/-- A call: what is known of the function at what is read of the arguments; where nothing is, slices are let go of. -/
def evCall (E : Env) (g : FuncId) (raw cap : List AV) (h : List AObj) (nid : Nat) : Option Out :=
  match E.K g (raw.map (coerce h) ++ cap) h nid with
  | some o => some o
  | none => match frzOf h raw with
    | [] => none
    | fz => match E.K g (raw.map (coerceF h) ++ cap) (applyEff h fz) nid with
      | some (x, effs, need) => some (x, fz ++ effs, need)
      | none => none

/-- A string's iterator is asked. -/
def evNext (t : List AV) (h : List AObj) (it : Operand) : Option Out := match opd t it with
  | .ptr id off => if off = 0 then match hget h id with
      | .iter s pos => some (.nxt (decide (pos < s.size)) pos (Utf8.decode s pos).1, [(id, .iter s (cond (decide (pos < s.size)) (pos + (Utf8.decode s pos).2) pos))], [])
      | _ => none
    else none
  | _ => none
/-- The field of a new variable that is a nil slice of a kind that is known: it is to be one of its own. -/
def nilField (E : Env) (t : TypeId) : Option (Nat × Kind) := match E.P.underlying t with
  | some (.slice e) => (E.ck e).map (0, ·)
  | some (.struct fs) => if (E.ck t).isSome then none else fs.toList.findSome? fun f => match E.P.underlying f.type with
    | some (.slice e) => (E.ck e).map (f.offset, ·)
    | _ => none
  | _ => none
def evAlloc (E : Env) (nid : Nat) (e : TypeId) (z : AV) : Out := match nilField E e with
  | some (off, k) => match z.cells[off]? with
    | some .nils => (.ptr nid 0, [(nid + 1, .vec (!E.wr) ⟨k, []⟩), (nid, .cells e (z.cells.set off (.vec (nid + 1))))], [])
    | _ => (.ptr nid 0, [(nid, .cells e z.cells)], [])
  | none => (.ptr nid 0, [(nid, .cells e z.cells)], [])
def evOp (E : Env) (t : List AV) (h : List AObj) (nid : Nat) (oo : Oper) : Option Out :=
  match oo.op with
  | .move x | .assign x => if isNilc x then nilVec E oo.type nid else pureOut (opd t x)
  | .alloc e => match tzero E.P e with
    | some z => some (evAlloc E nid e z)
    | none => none
  | .box e x => let v := opd t x
    if v.cells.all AV.one then some (.ptr nid 0, [(nid, .cells e v.cells)], []) else none
  | .build ty ps => match tzero E.P ty, placesOf E.P ty with
    | some (.agg z), some pl => if ps.toList.all fun p => (opd t p.2).cells.all AV.one then
        match fillAV pl z (ps.toList.map fun p => (p.1, opd t p.2)) with
        | some cs => pureOut (.agg cs)
        | none => none
      else none
    | _, _ => none
  | .load ty a => match opd t a with
    | .ptr id off => match hget h id with
      | .cells _ cs => (loadFrom E.P ty cs off).bind pureOut
      | _ => none
    | .ep c i off => (loadFrom E.P ty (c.get i) off).bind pureOut
    | .evp id esz i off => match hget h id with
      | .vec _ c => if c.esz = esz then (loadFrom E.P ty (c.get i) off).bind pureOut else none
      | _ => none
    | _ => none
  | .store ty a x => let v := opd t x
    match opd t a with
    | .ptr id off => match hget h id with
      | .cells ct cs => if (E.P.info? ty).isSome ∧ v.cells.length = tsize E.P ty ∧ off + v.cells.length ≤ cs.length ∧ v.cells.all AV.one then some (.unk, [(id, .cells ct (splice cs off v.cells))], []) else none
      | _ => none
    | .evp id esz i off => match hget h id with
      | .vec false c => if (E.P.info? ty).isSome ∧ v.cells.length = tsize E.P ty ∧ off + v.cells.length ≤ esz ∧ v.cells.all AV.one ∧ c.esz = esz then match c.k.dec (splice (c.get i) off v.cells) with
        | some y => some (.unk, [(id, .vec false (c.set i y))], [])
        | none => none
        else none
      | _ => none
    | _ => none
  | .nilCheck x => match opd t x with
    | .ptr id off => pureOut (.ptr id off)
    | .ep c i off => pureOut (.ep c i off)
    | .evp id esz i off => pureOut (.evp id esz i off)
    | .fn f cap => pureOut (.fn f cap)
    | _ => none
  | .binOp op ty x y _ => (evBin E.P op ty (opd t x) (opd t y)).map fun r => (r.1, [], r.2)
  | .unOp .not _ x => match opd t x with
    | .bool b => pureOut (.bool (!b))
    | _ => none
  | .unOp .neg _ x => match opd t x with
    | .int k n => pureOut (.int k (k.wrap (0 - n)))
    | _ => none
  | .convert src dst x => match E.P.underlying src, E.P.underlying dst, opd t x with
    | some (.int _), some (.int k), .int _ n => pureOut (.int k (k.wrap n))
    | some .string, some .string, .str s => pureOut (.str s)
    | _, _, _ => none
  | .makeFunc (.func f) first cap => if first.size = 0 then pureOut (.fn f (cap.toList.map (opd t))) else none
  | .makeInterface ty x => match E.P.underlying ty with
    | some (.interface _) => none
    | some _ => pureOut (.iface ty (opd t x))
    | none => none
  | .fieldAddr s x f => match fieldOff E.P s f with
    | some (off, ft) => if tsize E.P ft = 0 then none else match opd t x with
      | .ptr id o => pureOut (.ptr id (o + off))
      | .ep c i o => if o + off ≤ c.esz then pureOut (.ep c i (o + off)) else none
      | .evp id esz i o => if o + off ≤ esz then pureOut (.evp id esz i (o + off)) else none
      | _ => none
    | none => none
  | .field s x f => match fieldOff E.P s f, opd t x with
    | some (off, ft), .agg cs => (loadFrom E.P ft cs off).bind pureOut
    | _, _ => none
  | .indexAddr ty x ix => match E.P.underlying ty, coerce h (opd t x), opd t ix with
    | some (.slice e), .coll c, .int _ i => if (E.P.info? e).isSome ∧ tsize E.P e = c.esz then some (.ep c i.toNat 0, [], [0 ≤ i ∧ i < c.len]) else none
    | some (.slice e), .vec id, .int _ i => match hget h id with
      | .vec _ c => if (E.P.info? e).isSome ∧ tsize E.P e = c.esz then some (.evp id c.esz i.toNat 0, [], [0 ≤ i ∧ i < c.len]) else none
      | _ => none
    | some (.array m e), .ptr id o, .int _ i => if (E.P.info? e).isSome then some (.ptr id (o + i.toNat * tsize E.P e), [], [0 ≤ i ∧ i < m]) else none
    | _, _, _ => none
  | .index ty x ix => match E.P.underlying ty, opd t x, opd t ix with
    | some .string, .str s, .int _ i => some (.int .u8 (byteAt s i), [], [0 ≤ i ∧ i < s.size])
    | _, _, _ => none
  | .extract x ix => match opd t x with
    | .tup vs => (vs[ix]?).bind pureOut
    | .nxt b i r => match ix with
      | 0 => pureOut (.bool b)
      | 1 => some (.int .i64 i, [], [b = true])
      | 2 => some (.int .i32 r, [], [b = true])
      | _ => none
    | _ => none
  | .range xt x => match E.P.underlying xt, opd t x with
    | some .string, .str s => some (.ptr nid 0, [(nid, .iter s 0)], [])
    | _, _ => none
  | .next it true => evNext t h it
  | .call c => match c.callee with
    | .builtin .len => match c.argTypes[0]?, c.args[0]? with
      | some ty, some x => match E.P.underlying ty, coerce h (opd t x) with
        | some .string, .str s => pureOut (.int .i64 s.size)
        | some (.slice _), .coll c => pureOut (.int .i64 c.len)
        | some (.slice _), .nils => pureOut (.int .i64 0)
        | some (.slice _), .vec id => match hget h id with
          | .vec _ c => pureOut (.int .i64 c.len)
          | _ => none
        | some (.map _ _), .map id => match hget h id with
          | .map m => pureOut (.int .i64 m.es.length)
          | _ => none
        | some (.map _ _), .nilm => pureOut (.int .i64 0)
        | _, _ => none
      | _, _ => none
    | .builtin .max => match c.args.toList.map (opd t) with
      | [.int k a, .int k' b] => if k = k' then pureOut (.int k (if b > a then b else a)) else none
      | _ => none
    | .builtin .min => match c.args.toList.map (opd t) with
      | [.int k a, .int k' b] => if k = k' then pureOut (.int k (if b < a then b else a)) else none
      | _ => none
    | .builtin .append => match c.args[0]?, c.args[1]?, c.argTypes[0]?, c.argTypes[1]? with
      | some x, some y, some ty, some tx => if c.args.size = 2 ∧ c.argTypes.size = 2 then evAppend E t h nid ty tx x y else none
      | _, _, _, _ => none
    | .builtin .delete => match c.args[0]?, c.args[1]?, c.argTypes[0]? with
      | some x, some y, some ty => evDelete E t h ty x y
      | _, _, _ => none
    | .value f => match opd t f with
      | .fn g cap => evCall E g (c.args.toList.map (opd t)) cap h nid
      | _ => none
    | _ => none
  | .buildSlice ty len ps => evBuildSlice E t nid ty len ps.toList
  | .makeSlice ty l c => evMakeSlice E t nid ty l c
  | .slice ty x lo hi none => evSlice E t h ty x lo hi
  | .makeMap ty none => evMakeMap E nid ty
  | .lookup ty x y ok => evLookup E t h ty x y ok
  | .mapUpdate ty x y z | .insert ty x y z => evUpdate E t h ty x y z
  | _ => none
end Go.Eng
