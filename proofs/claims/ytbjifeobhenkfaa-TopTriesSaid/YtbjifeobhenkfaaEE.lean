/- The engine: parts 15 16 17 18 19 20 21 22 23 24 25. -/
import Derived.Test.YtbjifeobhenkfaaED
import Derived.OpenShut
import Derived.Deep.Slices
import Derived.SizedLaws
import Derived.Carry
import Derived.Sort.Grow
import Derived.Lib.AppendIntMem
import Derived.Laws.RangeString
set_option linter.unusedVariables false
set_option linter.unusedSimpArgs false
section
namespace Go.Eng
open Go.RowKit (Below)

inductive Sh where
 | int (k : IntKind)
 | bool
 | str
 | row (c : Kind)

 | no
 deriving DecidableEq
def Kind.shapes : Kind → List Sh
 | .int k => [.int k]
 | .bool => [.bool]
 | .str => [.str]
 | .obj => [.int .u8, .str, .int .u64, .int .u64, .bool, .bool, .str, .int .i64, .int .i64, .int .u8, .bool, .bool, .str, .str, .str, .str, .str, .int .u8, .int .u64, .int .u64]
 | .call => [.int .u8, .str, .int .u64, .int .i64, .str, .str, .str]
 | .ask => [.str, .int .u64, .int .u64]
 | .label => [.str, .str]
 | .term => [.str, .row .str]
 | .zone => [.str, .int .i64]
 | .vol => [.str, .int .i64, .str, .int .u64, .row .str]
 | .snap => [.str, .int .i64, .int .u64]
 | .sn => [.int .i64, .int .u64]
 | .done => [.int .u8, .str, .int .u64, .int .i64, .str, .str, .str, .int .i64, .int .i64, .str, .int .u64]
 | .deed => [.int .u8, .str, .int .u64, .int .i64, .str, .str, .str, .int .u64]
 | .deed2 => [.int .u8, .str, .int .u64, .int .i64, .str, .str, .str, .int .u8, .int .u64, .bool, .int .i64]
 | .key => [.int .u8, .str]
 | .tgt => [.bool, .str]
 | .event => [.int .u64, .bool, .int .u8, .str, .int .u64, .int .u64, .bool, .bool, .str, .int .i64, .int .i64, .int .u8, .bool, .bool, .str, .str, .str, .str, .str, .int .u8, .int .u64, .int .u64]
 | .strs => [.row .str]
 | .labels => [.row .label]
 | .terms => [.row .term]
 | .dv => [.no, .no, .no, .no]
def Kind.all : List Kind := [.int .i8, .int .i16, .int .i32, .int .i64, .int .u8, .int .u16, .int .u32, .int .u64, .bool, .str, .obj, .call, .ask, .label, .term, .zone, .vol, .snap, .sn, .done, .deed, .deed2, .key, .tgt, .event, .strs, .labels, .terms]
def Coll.push (c : Coll) (e : List AV) : Option Coll := (c.k.dec e).map fun x => ⟨c.k, c.xs ++ [x]⟩
inductive Fits : Sh → AV → Prop
 | int {k : IntKind} {n : Int} (h : (Lit.int k n).wf = true) : Fits (.int k) (.int k n)
 | bool {b : Bool} : Fits .bool (.bool b)
 | str {s : ByteArray} (h : s.size ≤ reachBytes) : Fits .str (.str s)
 | row {k : Kind} {c : Coll} (h : c.k = k) (hl : c.len ≤ reachBytes) (he : ∀ (i j : Nat) (sh : Sh) (x : AV), i < c.len → k.shapes[j]? = some sh → (c.get i)[j]? = some x → Fits sh x) : Fits (.row k) (.coll c)
def FitsL : List Sh → List AV → Prop
 | [], [] => True
 | s :: ss, x :: xs => Fits s x ∧ FitsL ss xs
 | _, _ => False
theorem FitsL.nil {e : List AV} (h : FitsL [] e) : e = [] := by
 cases e with
 | nil => rfl
 | cons _ _ => exact h.elim
theorem FitsL.cons {s : Sh} {ss : List Sh} {e : List AV} (h : FitsL (s :: ss) e) : ∃ x xs, e = x :: xs ∧ Fits s x ∧ FitsL ss xs := by
 cases e with
 | nil => exact h.elim
 | cons x xs => exact ⟨x, xs, rfl, h.1, h.2⟩
theorem Fits.int_inv {k : IntKind} {x : AV} (h : Fits (.int k) x) : ∃ n, x = .int k n ∧ (Lit.int k n).wf = true := by cases h with | int h => exact ⟨_, rfl, h⟩
theorem Fits.bool_inv {x : AV} (h : Fits .bool x) : ∃ b, x = .bool b := by cases h; exact ⟨_, rfl⟩
theorem Fits.str_inv {x : AV} (h : Fits .str x) : ∃ s, x = .str s ∧ s.size ≤ reachBytes := by cases h with | str h => exact ⟨_, rfl, h⟩
theorem Fits.row_inv {k : Kind} {x : AV} (h : Fits (.row k) x) : ∃ l : List k.Ty, x = .coll ⟨k, l⟩ := by
 cases h with
 | row h hl he =>
  rename_i c
  obtain ⟨k', l⟩ := c
  simp only at h
  subst h
  exact ⟨l, rfl⟩
theorem FitsL.get : ∀ {ss : List Sh} {xs : List AV} {j : Nat} {s : Sh} {x : AV}, FitsL ss xs → ss[j]? = some s → xs[j]? = some x → Fits s x
 | [], [], _, _, _, _, h, _ => by simp at h
 | s :: ss, x :: xs, 0, _, _, h, h1, h2 => by simp at h1 h2; subst h1; subst h2; exact h.1
 | s :: ss, x :: xs, j + 1, _, _, h, h1, h2 => FitsL.get h.2 (by simpa using h1) (by simpa using h2)
 | [], _ :: _, _, _, _, h, _, _ => h.elim
 | _ :: _, [], _, _, _, h, _, _ => h.elim
theorem FitsL.len : ∀ {ss : List Sh} {xs : List AV}, FitsL ss xs → ss.length = xs.length
 | [], [], _ => rfl
 | _ :: _, _ :: _, h => by simp [FitsL.len h.2]
 | [], _ :: _, h => h.elim
 | _ :: _, [], h => h.elim
theorem FitsL.append : ∀ {ss ts : List Sh} {xs ys : List AV}, FitsL ss xs → FitsL ts ys → FitsL (ss ++ ts) (xs ++ ys)
 | [], _, [], _, _, h => h
 | _ :: _, _, _ :: _, _, h, k => ⟨h.1, FitsL.append h.2 k⟩
 | [], _, _ :: _, _, h, _ => h.elim
 | _ :: _, _, [], _, h, _ => h.elim
theorem getD_push_lt {α : Type} {l : List α} {x d : α} {i : Nat} (h : i < l.length) : (l ++ [x]).getD i d = l.getD i d := by
 simp [List.getD_eq_getElem?_getD, List.getElem?_append_left h]
theorem getD_push_eq {α : Type} {l : List α} {x d : α} : (l ++ [x]).getD l.length d = x := by
 simp [List.getD_eq_getElem?_getD]
theorem fits_dec (k : Kind) {e : List AV} (h : FitsL k.shapes e) : ∃ x, k.dec e = some x ∧ k.enc x = e := by
 cases k with
 | int k =>
  simp only [Kind.shapes] at h
  obtain ⟨x0, e0, rfl, h0, g0⟩ := FitsL.cons h
  obtain ⟨x0, rfl, -⟩ := h0.int_inv
  obtain rfl := FitsL.nil g0
  exact ⟨x0, by simp [Kind.dec], rfl⟩
 | bool =>
  simp only [Kind.shapes] at h
  obtain ⟨x0, e0, rfl, h0, g0⟩ := FitsL.cons h
  obtain ⟨x0, rfl⟩ := h0.bool_inv
  obtain rfl := FitsL.nil g0
  exact ⟨x0, rfl, rfl⟩
 | str =>
  simp only [Kind.shapes] at h
  obtain ⟨x0, e0, rfl, h0, g0⟩ := FitsL.cons h
  obtain ⟨x0, rfl, -⟩ := h0.str_inv
  obtain rfl := FitsL.nil g0
  exact ⟨x0, rfl, rfl⟩
 | obj =>
  simp only [Kind.shapes] at h
  obtain ⟨x0, e0, rfl, h0, g0⟩ := FitsL.cons h
  obtain ⟨x0, rfl, -⟩ := h0.int_inv
  obtain ⟨x1, e1, rfl, h1, g1⟩ := FitsL.cons g0
  obtain ⟨x1, rfl, -⟩ := h1.str_inv
  obtain ⟨x2, e2, rfl, h2, g2⟩ := FitsL.cons g1
  obtain ⟨x2, rfl, -⟩ := h2.int_inv
  obtain ⟨x3, e3, rfl, h3, g3⟩ := FitsL.cons g2
  obtain ⟨x3, rfl, -⟩ := h3.int_inv
  obtain ⟨x4, e4, rfl, h4, g4⟩ := FitsL.cons g3
  obtain ⟨x4, rfl⟩ := h4.bool_inv
  obtain ⟨x5, e5, rfl, h5, g5⟩ := FitsL.cons g4
  obtain ⟨x5, rfl⟩ := h5.bool_inv
  obtain ⟨x6, e6, rfl, h6, g6⟩ := FitsL.cons g5
  obtain ⟨x6, rfl, -⟩ := h6.str_inv
  obtain ⟨x7, e7, rfl, h7, g7⟩ := FitsL.cons g6
  obtain ⟨x7, rfl, -⟩ := h7.int_inv
  obtain ⟨x8, e8, rfl, h8, g8⟩ := FitsL.cons g7
  obtain ⟨x8, rfl, -⟩ := h8.int_inv
  obtain ⟨x9, e9, rfl, h9, g9⟩ := FitsL.cons g8
  obtain ⟨x9, rfl, -⟩ := h9.int_inv
  obtain ⟨x10, e10, rfl, h10, g10⟩ := FitsL.cons g9
  obtain ⟨x10, rfl⟩ := h10.bool_inv
  obtain ⟨x11, e11, rfl, h11, g11⟩ := FitsL.cons g10
  obtain ⟨x11, rfl⟩ := h11.bool_inv
  obtain ⟨x12, e12, rfl, h12, g12⟩ := FitsL.cons g11
  obtain ⟨x12, rfl, -⟩ := h12.str_inv
  obtain ⟨x13, e13, rfl, h13, g13⟩ := FitsL.cons g12
  obtain ⟨x13, rfl, -⟩ := h13.str_inv
  obtain ⟨x14, e14, rfl, h14, g14⟩ := FitsL.cons g13
  obtain ⟨x14, rfl, -⟩ := h14.str_inv
  obtain ⟨x15, e15, rfl, h15, g15⟩ := FitsL.cons g14
  obtain ⟨x15, rfl, -⟩ := h15.str_inv
  obtain ⟨x16, e16, rfl, h16, g16⟩ := FitsL.cons g15
  obtain ⟨x16, rfl, -⟩ := h16.str_inv
  obtain ⟨x17, e17, rfl, h17, g17⟩ := FitsL.cons g16
  obtain ⟨x17, rfl, -⟩ := h17.int_inv
  obtain ⟨x18, e18, rfl, h18, g18⟩ := FitsL.cons g17
  obtain ⟨x18, rfl, -⟩ := h18.int_inv
  obtain ⟨x19, e19, rfl, h19, g19⟩ := FitsL.cons g18
  obtain ⟨x19, rfl, -⟩ := h19.int_inv
  obtain rfl := FitsL.nil g19
  exact ⟨⟨x0, x1, x2, x3, x4, x5, x6, x7, x8, x9, x10, x11, x12, x13, x14, x15, x16, x17, x18, x19⟩, rfl, rfl⟩
 | call =>
  simp only [Kind.shapes] at h
  obtain ⟨x0, e0, rfl, h0, g0⟩ := FitsL.cons h
  obtain ⟨x0, rfl, -⟩ := h0.int_inv
  obtain ⟨x1, e1, rfl, h1, g1⟩ := FitsL.cons g0
  obtain ⟨x1, rfl, -⟩ := h1.str_inv
  obtain ⟨x2, e2, rfl, h2, g2⟩ := FitsL.cons g1
  obtain ⟨x2, rfl, -⟩ := h2.int_inv
  obtain ⟨x3, e3, rfl, h3, g3⟩ := FitsL.cons g2
  obtain ⟨x3, rfl, -⟩ := h3.int_inv
  obtain ⟨x4, e4, rfl, h4, g4⟩ := FitsL.cons g3
  obtain ⟨x4, rfl, -⟩ := h4.str_inv
  obtain ⟨x5, e5, rfl, h5, g5⟩ := FitsL.cons g4
  obtain ⟨x5, rfl, -⟩ := h5.str_inv
  obtain ⟨x6, e6, rfl, h6, g6⟩ := FitsL.cons g5
  obtain ⟨x6, rfl, -⟩ := h6.str_inv
  obtain rfl := FitsL.nil g6
  exact ⟨⟨x0, x1, x2, x3, x4, x5, x6⟩, rfl, rfl⟩
 | ask =>
  simp only [Kind.shapes] at h
  obtain ⟨x0, e0, rfl, h0, g0⟩ := FitsL.cons h
  obtain ⟨x0, rfl, -⟩ := h0.str_inv
  obtain ⟨x1, e1, rfl, h1, g1⟩ := FitsL.cons g0
  obtain ⟨x1, rfl, -⟩ := h1.int_inv
  obtain ⟨x2, e2, rfl, h2, g2⟩ := FitsL.cons g1
  obtain ⟨x2, rfl, -⟩ := h2.int_inv
  obtain rfl := FitsL.nil g2
  exact ⟨⟨x0, x1, x2⟩, rfl, rfl⟩
 | label =>
  simp only [Kind.shapes] at h
  obtain ⟨x0, e0, rfl, h0, g0⟩ := FitsL.cons h
  obtain ⟨x0, rfl, -⟩ := h0.str_inv
  obtain ⟨x1, e1, rfl, h1, g1⟩ := FitsL.cons g0
  obtain ⟨x1, rfl, -⟩ := h1.str_inv
  obtain rfl := FitsL.nil g1
  exact ⟨⟨x0, x1⟩, rfl, rfl⟩
 | term =>
  simp only [Kind.shapes] at h
  obtain ⟨x0, e0, rfl, h0, g0⟩ := FitsL.cons h
  obtain ⟨x0, rfl, -⟩ := h0.str_inv
  obtain ⟨x1, e1, rfl, h1, g1⟩ := FitsL.cons g0
  obtain ⟨x1, rfl⟩ := h1.row_inv
  obtain rfl := FitsL.nil g1
  exact ⟨⟨x0, x1⟩, rfl, rfl⟩
 | zone =>
  simp only [Kind.shapes] at h
  obtain ⟨x0, e0, rfl, h0, g0⟩ := FitsL.cons h
  obtain ⟨x0, rfl, -⟩ := h0.str_inv
  obtain ⟨x1, e1, rfl, h1, g1⟩ := FitsL.cons g0
  obtain ⟨x1, rfl, -⟩ := h1.int_inv
  obtain rfl := FitsL.nil g1
  exact ⟨⟨x0, x1⟩, rfl, rfl⟩
 | vol =>
  simp only [Kind.shapes] at h
  obtain ⟨x0, e0, rfl, h0, g0⟩ := FitsL.cons h
  obtain ⟨x0, rfl, -⟩ := h0.str_inv
  obtain ⟨x1, e1, rfl, h1, g1⟩ := FitsL.cons g0
  obtain ⟨x1, rfl, -⟩ := h1.int_inv
  obtain ⟨x2, e2, rfl, h2, g2⟩ := FitsL.cons g1
  obtain ⟨x2, rfl, -⟩ := h2.str_inv
  obtain ⟨x3, e3, rfl, h3, g3⟩ := FitsL.cons g2
  obtain ⟨x3, rfl, -⟩ := h3.int_inv
  obtain ⟨x4, e4, rfl, h4, g4⟩ := FitsL.cons g3
  obtain ⟨x4, rfl⟩ := h4.row_inv
  obtain rfl := FitsL.nil g4
  exact ⟨⟨x0, x1, x2, x3, x4⟩, rfl, rfl⟩
 | snap =>
  simp only [Kind.shapes] at h
  obtain ⟨x0, e0, rfl, h0, g0⟩ := FitsL.cons h
  obtain ⟨x0, rfl, -⟩ := h0.str_inv
  obtain ⟨x1, e1, rfl, h1, g1⟩ := FitsL.cons g0
  obtain ⟨x1, rfl, -⟩ := h1.int_inv
  obtain ⟨x2, e2, rfl, h2, g2⟩ := FitsL.cons g1
  obtain ⟨x2, rfl, -⟩ := h2.int_inv
  obtain rfl := FitsL.nil g2
  exact ⟨⟨x0, x1, x2⟩, rfl, rfl⟩
 | sn =>
  simp only [Kind.shapes] at h
  obtain ⟨x0, e0, rfl, h0, g0⟩ := FitsL.cons h
  obtain ⟨x0, rfl, -⟩ := h0.int_inv
  obtain ⟨x1, e1, rfl, h1, g1⟩ := FitsL.cons g0
  obtain ⟨x1, rfl, -⟩ := h1.int_inv
  obtain rfl := FitsL.nil g1
  exact ⟨⟨x0, x1⟩, rfl, rfl⟩
 | done =>
  simp only [Kind.shapes] at h
  obtain ⟨x0, e0, rfl, h0, g0⟩ := FitsL.cons h
  obtain ⟨x0, rfl, -⟩ := h0.int_inv
  obtain ⟨x1, e1, rfl, h1, g1⟩ := FitsL.cons g0
  obtain ⟨x1, rfl, -⟩ := h1.str_inv
  obtain ⟨x2, e2, rfl, h2, g2⟩ := FitsL.cons g1
  obtain ⟨x2, rfl, -⟩ := h2.int_inv
  obtain ⟨x3, e3, rfl, h3, g3⟩ := FitsL.cons g2
  obtain ⟨x3, rfl, -⟩ := h3.int_inv
  obtain ⟨x4, e4, rfl, h4, g4⟩ := FitsL.cons g3
  obtain ⟨x4, rfl, -⟩ := h4.str_inv
  obtain ⟨x5, e5, rfl, h5, g5⟩ := FitsL.cons g4
  obtain ⟨x5, rfl, -⟩ := h5.str_inv
  obtain ⟨x6, e6, rfl, h6, g6⟩ := FitsL.cons g5
  obtain ⟨x6, rfl, -⟩ := h6.str_inv
  obtain ⟨x7, e7, rfl, h7, g7⟩ := FitsL.cons g6
  obtain ⟨x7, rfl, -⟩ := h7.int_inv
  obtain ⟨x8, e8, rfl, h8, g8⟩ := FitsL.cons g7
  obtain ⟨x8, rfl, -⟩ := h8.int_inv
  obtain ⟨x9, e9, rfl, h9, g9⟩ := FitsL.cons g8
  obtain ⟨x9, rfl, -⟩ := h9.str_inv
  obtain ⟨x10, e10, rfl, h10, g10⟩ := FitsL.cons g9
  obtain ⟨x10, rfl, -⟩ := h10.int_inv
  obtain rfl := FitsL.nil g10
  exact ⟨⟨⟨x0, x1, x2, x3, x4, x5, x6⟩, ⟨x7, x8, x9, x10⟩⟩, rfl, rfl⟩
 | deed =>
  simp only [Kind.shapes] at h
  obtain ⟨x0, e0, rfl, h0, g0⟩ := FitsL.cons h
  obtain ⟨x0, rfl, -⟩ := h0.int_inv
  obtain ⟨x1, e1, rfl, h1, g1⟩ := FitsL.cons g0
  obtain ⟨x1, rfl, -⟩ := h1.str_inv
  obtain ⟨x2, e2, rfl, h2, g2⟩ := FitsL.cons g1
  obtain ⟨x2, rfl, -⟩ := h2.int_inv
  obtain ⟨x3, e3, rfl, h3, g3⟩ := FitsL.cons g2
  obtain ⟨x3, rfl, -⟩ := h3.int_inv
  obtain ⟨x4, e4, rfl, h4, g4⟩ := FitsL.cons g3
  obtain ⟨x4, rfl, -⟩ := h4.str_inv
  obtain ⟨x5, e5, rfl, h5, g5⟩ := FitsL.cons g4
  obtain ⟨x5, rfl, -⟩ := h5.str_inv
  obtain ⟨x6, e6, rfl, h6, g6⟩ := FitsL.cons g5
  obtain ⟨x6, rfl, -⟩ := h6.str_inv
  obtain ⟨x7, e7, rfl, h7, g7⟩ := FitsL.cons g6
  obtain ⟨x7, rfl, -⟩ := h7.int_inv
  obtain rfl := FitsL.nil g7
  exact ⟨⟨⟨x0, x1, x2, x3, x4, x5, x6⟩, x7⟩, rfl, rfl⟩
 | deed2 =>
  simp only [Kind.shapes] at h
  obtain ⟨x0, e0, rfl, h0, g0⟩ := FitsL.cons h
  obtain ⟨x0, rfl, -⟩ := h0.int_inv
  obtain ⟨x1, e1, rfl, h1, g1⟩ := FitsL.cons g0
  obtain ⟨x1, rfl, -⟩ := h1.str_inv
  obtain ⟨x2, e2, rfl, h2, g2⟩ := FitsL.cons g1
  obtain ⟨x2, rfl, -⟩ := h2.int_inv
  obtain ⟨x3, e3, rfl, h3, g3⟩ := FitsL.cons g2
  obtain ⟨x3, rfl, -⟩ := h3.int_inv
  obtain ⟨x4, e4, rfl, h4, g4⟩ := FitsL.cons g3
  obtain ⟨x4, rfl, -⟩ := h4.str_inv
  obtain ⟨x5, e5, rfl, h5, g5⟩ := FitsL.cons g4
  obtain ⟨x5, rfl, -⟩ := h5.str_inv
  obtain ⟨x6, e6, rfl, h6, g6⟩ := FitsL.cons g5
  obtain ⟨x6, rfl, -⟩ := h6.str_inv
  obtain ⟨x7, e7, rfl, h7, g7⟩ := FitsL.cons g6
  obtain ⟨x7, rfl, -⟩ := h7.int_inv
  obtain ⟨x8, e8, rfl, h8, g8⟩ := FitsL.cons g7
  obtain ⟨x8, rfl, -⟩ := h8.int_inv
  obtain ⟨x9, e9, rfl, h9, g9⟩ := FitsL.cons g8
  obtain ⟨x9, rfl⟩ := h9.bool_inv
  obtain ⟨x10, e10, rfl, h10, g10⟩ := FitsL.cons g9
  obtain ⟨x10, rfl, -⟩ := h10.int_inv
  obtain rfl := FitsL.nil g10
  exact ⟨⟨⟨x0, x1, x2, x3, x4, x5, x6⟩, x7, x8, x9, x10⟩, rfl, rfl⟩
 | key =>
  simp only [Kind.shapes] at h
  obtain ⟨x0, e0, rfl, h0, g0⟩ := FitsL.cons h
  obtain ⟨x0, rfl, -⟩ := h0.int_inv
  obtain ⟨x1, e1, rfl, h1, g1⟩ := FitsL.cons g0
  obtain ⟨x1, rfl, -⟩ := h1.str_inv
  obtain rfl := FitsL.nil g1
  exact ⟨⟨x0, x1⟩, rfl, rfl⟩
 | tgt =>
  simp only [Kind.shapes] at h
  obtain ⟨x0, e0, rfl, h0, g0⟩ := FitsL.cons h
  obtain ⟨x0, rfl⟩ := h0.bool_inv
  obtain ⟨x1, e1, rfl, h1, g1⟩ := FitsL.cons g0
  obtain ⟨x1, rfl, -⟩ := h1.str_inv
  obtain rfl := FitsL.nil g1
  exact ⟨⟨x0, x1⟩, rfl, rfl⟩
 | event =>
  simp only [Kind.shapes] at h
  obtain ⟨x0, e0, rfl, h0, g0⟩ := FitsL.cons h
  obtain ⟨x0, rfl, -⟩ := h0.int_inv
  obtain ⟨x1, e1, rfl, h1, g1⟩ := FitsL.cons g0
  obtain ⟨x1, rfl⟩ := h1.bool_inv
  obtain ⟨x2, e2, rfl, h2, g2⟩ := FitsL.cons g1
  obtain ⟨x2, rfl, -⟩ := h2.int_inv
  obtain ⟨x3, e3, rfl, h3, g3⟩ := FitsL.cons g2
  obtain ⟨x3, rfl, -⟩ := h3.str_inv
  obtain ⟨x4, e4, rfl, h4, g4⟩ := FitsL.cons g3
  obtain ⟨x4, rfl, -⟩ := h4.int_inv
  obtain ⟨x5, e5, rfl, h5, g5⟩ := FitsL.cons g4
  obtain ⟨x5, rfl, -⟩ := h5.int_inv
  obtain ⟨x6, e6, rfl, h6, g6⟩ := FitsL.cons g5
  obtain ⟨x6, rfl⟩ := h6.bool_inv
  obtain ⟨x7, e7, rfl, h7, g7⟩ := FitsL.cons g6
  obtain ⟨x7, rfl⟩ := h7.bool_inv
  obtain ⟨x8, e8, rfl, h8, g8⟩ := FitsL.cons g7
  obtain ⟨x8, rfl, -⟩ := h8.str_inv
  obtain ⟨x9, e9, rfl, h9, g9⟩ := FitsL.cons g8
  obtain ⟨x9, rfl, -⟩ := h9.int_inv
  obtain ⟨x10, e10, rfl, h10, g10⟩ := FitsL.cons g9
  obtain ⟨x10, rfl, -⟩ := h10.int_inv
  obtain ⟨x11, e11, rfl, h11, g11⟩ := FitsL.cons g10
  obtain ⟨x11, rfl, -⟩ := h11.int_inv
  obtain ⟨x12, e12, rfl, h12, g12⟩ := FitsL.cons g11
  obtain ⟨x12, rfl⟩ := h12.bool_inv
  obtain ⟨x13, e13, rfl, h13, g13⟩ := FitsL.cons g12
  obtain ⟨x13, rfl⟩ := h13.bool_inv
  obtain ⟨x14, e14, rfl, h14, g14⟩ := FitsL.cons g13
  obtain ⟨x14, rfl, -⟩ := h14.str_inv
  obtain ⟨x15, e15, rfl, h15, g15⟩ := FitsL.cons g14
  obtain ⟨x15, rfl, -⟩ := h15.str_inv
  obtain ⟨x16, e16, rfl, h16, g16⟩ := FitsL.cons g15
  obtain ⟨x16, rfl, -⟩ := h16.str_inv
  obtain ⟨x17, e17, rfl, h17, g17⟩ := FitsL.cons g16
  obtain ⟨x17, rfl, -⟩ := h17.str_inv
  obtain ⟨x18, e18, rfl, h18, g18⟩ := FitsL.cons g17
  obtain ⟨x18, rfl, -⟩ := h18.str_inv
  obtain ⟨x19, e19, rfl, h19, g19⟩ := FitsL.cons g18
  obtain ⟨x19, rfl, -⟩ := h19.int_inv
  obtain ⟨x20, e20, rfl, h20, g20⟩ := FitsL.cons g19
  obtain ⟨x20, rfl, -⟩ := h20.int_inv
  obtain ⟨x21, e21, rfl, h21, g21⟩ := FitsL.cons g20
  obtain ⟨x21, rfl, -⟩ := h21.int_inv
  obtain rfl := FitsL.nil g21
  exact ⟨⟨x0, x1, ⟨x2, x3, x4, x5, x6, x7, x8, x9, x10, x11, x12, x13, x14, x15, x16, x17, x18, x19, x20, x21⟩⟩, rfl, rfl⟩
 | strs =>
  simp only [Kind.shapes] at h
  obtain ⟨x0, e0, rfl, h0, g0⟩ := FitsL.cons h
  obtain ⟨x0, rfl⟩ := h0.row_inv
  obtain rfl := FitsL.nil g0
  exact ⟨x0, rfl, rfl⟩
 | labels =>
  simp only [Kind.shapes] at h
  obtain ⟨x0, e0, rfl, h0, g0⟩ := FitsL.cons h
  obtain ⟨x0, rfl⟩ := h0.row_inv
  obtain rfl := FitsL.nil g0
  exact ⟨x0, rfl, rfl⟩
 | dv =>
  simp only [Kind.shapes] at h
  obtain ⟨x0, e0, rfl, h0, g0⟩ := FitsL.cons h
  cases h0
 | terms =>
  simp only [Kind.shapes] at h
  obtain ⟨x0, e0, rfl, h0, g0⟩ := FitsL.cons h
  obtain ⟨x0, rfl⟩ := h0.row_inv
  obtain rfl := FitsL.nil g0
  exact ⟨x0, rfl, rfl⟩
theorem push_ok {c : Coll} {e : List AV} (h : FitsL c.k.shapes e) : ∃ c', c.push e = some c' ∧ c'.k = c.k ∧ c'.len = c.len + 1 ∧ (∀ i, i < c.len → c'.get i = c.get i) ∧ c'.get c.len = e := by
 obtain ⟨x, h1, h2⟩ := fits_dec c.k h
 refine ⟨⟨c.k, c.xs ++ [x]⟩, by simp [Coll.push, h1], rfl, by simp [Coll.len], fun i hi => ?_, ?_⟩
 · simp only [Coll.get]; rw [getD_push_lt hi]
 · simp only [Coll.get, Coll.len]; rw [getD_push_eq]; exact h2
def Kind.blank (k : Kind) : Coll := ⟨k, []⟩
theorem blank_kind (k : Kind) : k.blank.k = k := rfl
theorem blank_len (k : Kind) : k.blank.len = 0 := rfl
theorem esz_shapes (c : Coll) : c.k.shapes.length = c.esz := by obtain ⟨k, l⟩ := c; cases k <;> rfl
theorem shapes_pos (k : Kind) : 0 < k.shapes.length := by cases k <;> simp [Kind.shapes]
theorem build_ok (k : Kind) (es : Nat → List AV) : ∀ n, (∀ i, i < n → FitsL k.shapes (es i)) → ∃ c : Coll, c.k = k ∧ c.len = n ∧ ∀ i, i < n → c.get i = es i
 | 0, _ => ⟨⟨k, []⟩, rfl, rfl, fun i hi => by omega⟩
 | n + 1, h => by
  obtain ⟨c, h1, h2, h3⟩ := build_ok k es n fun i hi => h i (by omega)
  obtain ⟨c', _, k2, k3, k4, k5⟩ := push_ok (c := c) (e := es n) (by rw [h1]; exact h n (by omega))
  refine ⟨c', k2.trans h1, by omega, fun i hi => ?_⟩
  rcases Nat.lt_or_ge i n with hlt | hge
  · rw [k4 i (by omega), h3 i hlt]
  · have : i = c.len := by omega
    subst this
    rw [k5, h2]

def ckOf (l : List Sh) : Option Kind := Kind.all.find? fun k => decide (k.shapes = l)
def shFields (P : Program) (g : TypeId → Option (List Sh)) : List Field → Nat → Option (List Sh)
 | [], _ => some []
 | f :: fs, off => if f.offset = off then match g f.type with
   | some l => if P.cellsOf f.type = l.length then (shFields P g fs (off + l.length)).map (l ++ ·) else none
   | none => none
  else none
def shOf (P : Program) : Nat → Nat → TypeId → Option (List Sh)
 | 0, _, _ => none
 | n + 1, d, t => match P.underlying t with
  | some (.int k) => some [.int k]
  | some .bool => some [.bool]
  | some .string => some [.str]
  | some (.slice e) => match d with
   | 0 => none
   | d + 1 => match shOf P n d e with
    | some l => match ckOf l with
     | some k => if P.cellsOf e = l.length ∧ 0 < P.bytesOf e then some [.row k] else none
     | none => none
    | none => none
  | some (.struct fs) => match shFields P (shOf P n d) fs.toList 0 with
   | some l => if P.cellsOf t = l.length then some l else none
   | none => none
  | some (.array m e) => match shOf P n d e with
   | some l => if P.cellsOf e = l.length ∧ P.cellsOf t = m * l.length then some (List.replicate m l).flatten else none
   | none => none
  | _ => none
def repD (M : Mem) (d : Nat) : AV → Value → Prop
 | .coll c, v => repC M d c v
 | x, v => sc x v
def repDL (M : Mem) (d : Nat) : List AV → List Value → Prop
 | [], [] => True
 | x :: xs, v :: vs => repD M d x v ∧ repDL M d xs vs
 | _, _ => False
theorem repDL_append {M : Mem} {d : Nat} : ∀ {xs : List AV} {vs : List Value} {ys : List AV} {us : List Value}, repDL M d xs vs → repDL M d ys us → repDL M d (xs ++ ys) (vs ++ us)
 | [], [], _, _, _, h => h
 | _ :: _, _ :: _, _, _, h, k => ⟨h.1, repDL_append h.2 k⟩
 | [], _ :: _, _, _, h, _ => h.elim
 | _ :: _, [], _, _, h, _ => h.elim
theorem repDL_get {M : Mem} {d : Nat} : ∀ {xs : List AV} {vs : List Value}, repDL M d xs vs → ∀ (j : Nat) (x : AV), xs[j]? = some x → ∃ v, vs[j]? = some v ∧ repD M d x v
 | [], [], _, j, x, hx => by simp at hx
 | y :: xs, v :: vs, h, 0, x, hx => by simp at hx; subst hx; exact ⟨v, rfl, h.1⟩
 | y :: xs, v :: vs, h, j + 1, x, hx => by simpa using repDL_get h.2 j x (by simpa using hx)
 | [], _ :: _, h, _, _, _ => h.elim
 | _ :: _, [], h, _, _, _ => h.elim
def memOf (w : World) : Mem := fun b o => w.cell? ⟨b, o, none⟩

section
variable {H : Type} {enc : TypeId × Value → H} {P : Program} {W : World} {sp : Nat → Bool} {held : Bool}
theorem open_fields {g : TypeId → Option (List Sh)} {d n : Nat} {cs : List Value}
  (hg : ∀ t l cs x, g t = some l → DataW.trod enc P W 0 sp held n t cs = some x → (∀ k ∈ x.1.weights P t, k ≤ reachBytes) → ∃ avs, repDL (memOf W) d avs cs ∧ FitsL l avs) : ∀ (fs : List Field) (off : Nat) (l : List Sh) (xs : List (DataW H × List MemPlace)),
  shFields P g fs off = some l → xs.length = fs.length → (∀ (i : Nat) (f : Field), fs[i]? = some f → DataW.trod enc P W 0 sp held n f.type ((cs.drop f.offset).take (P.cellsOf f.type)) = xs[i]?) →
  (∀ k ∈ DataW.weightsEach P (fs.map (·.type)) (xs.map (·.1)), k ≤ reachBytes) → off + l.length = cs.length → ∃ avs, repDL (memOf W) d avs (cs.drop off) ∧ FitsL l avs
 | [], off, l, xs, h, _, _, _, hlen => by
  simp only [shFields, Option.some.injEq] at h
  subst h
  refine ⟨[], ?_, trivial⟩
  rw [List.drop_eq_nil_of_le (by simp at hlen; omega)]
  trivial
 | f :: fs, off, l, xs, h, hx, ht, hw, hlen => by
  simp only [shFields] at h
  split at h
  · rename_i hoff
    split at h
    · rename_i l1 hl1
      split at h
      · rename_i hc
        cases hr : shFields P g fs (off + l1.length) with
        | none => rw [hr] at h; cases h
        | some l2 =>
         rw [hr] at h
         simp only [Option.map_some, Option.some.injEq] at h
         subst h
         match xs, hx with
         | x :: xs, hx =>
          have h0 := ht 0 f rfl
          simp only [List.getElem?_cons_zero] at h0
          rw [hoff, hc] at h0
          simp only [List.map_cons, DataW.weightsEach, List.mem_append] at hw
          obtain ⟨a1, b1, c1⟩ := hg _ _ _ _ hl1 h0 fun k hk => hw k (.inl hk)
          simp only [List.length_append] at hlen
          obtain ⟨a2, b2, c2⟩ := open_fields hg fs (off + l1.length) l2 xs hr (by simpa using hx) (fun i f' hf => by simpa using ht (i + 1) f' (by simpa using hf)) (fun k hk => hw k (.inr hk)) (by omega)
          refine ⟨a1 ++ a2, ?_, c1.append c2⟩
          have := repDL_append b1 b2
          rw [← List.drop_drop, List.take_append_drop] at this
          exact this
      · cases h
    · cases h
  · cases h
theorem open_array {e : TypeId} {le : List Sh} {d n m : Nat} {cs : List Value} {xs : List (DataW H × List MemPlace)} (hx : xs.length = m) (hc : cs.length = m * le.length)
  (ht : ∀ i, i < m → DataW.trod enc P W 0 sp held n e ((cs.drop (i * le.length)).take le.length) = xs[i]?) (hw : ∀ x ∈ xs, ∀ k ∈ x.1.weights P e, k ≤ reachBytes)
  (hg : ∀ cs x, DataW.trod enc P W 0 sp held n e cs = some x → (∀ k ∈ x.1.weights P e, k ≤ reachBytes) → ∃ avs, repDL (memOf W) d avs cs ∧ FitsL le avs) : ∀ j, j ≤ m → ∃ avs, repDL (memOf W) d avs (cs.drop ((m - j) * le.length)) ∧ FitsL (List.replicate j le).flatten avs
 | 0, _ => by
  refine ⟨[], ?_, trivial⟩
  rw [List.drop_eq_nil_of_le (by simp [hc])]
  trivial
 | j + 1, hj => by
  obtain ⟨a2, b2, c2⟩ := open_array hx hc ht hw hg j (by omega)
  have h0 := ht (m - (j + 1)) (by omega)
  rw [List.getElem?_eq_getElem (by omega)] at h0
  obtain ⟨a1, b1, c1⟩ := hg _ _ h0 (hw _ (List.getElem_mem _))
  refine ⟨a1 ++ a2, ?_, by rw [List.replicate_succ, List.flatten_cons]; exact c1.append c2⟩
  have := repDL_append b1 b2
  have e1 : (m - j) * le.length = (m - (j + 1)) * le.length + le.length := by
   rw [show m - j = (m - (j + 1)) + 1 from by omega, Nat.succ_mul]
  rw [e1, ← List.drop_drop, List.take_append_drop] at this
  exact this
theorem weightsAll_mem {e : TypeId} : ∀ {l : List (DataW H)} {x : DataW H} {k : Nat}, x ∈ l → k ∈ x.weights P e → k ∈ DataW.weightsAll P e l
 | y :: l, x, k, h, hk => by
  simp only [DataW.weightsAll, List.mem_append]
  rcases List.mem_cons.1 h with rfl | h
  · exact .inl hk
  · exact .inr (weightsAll_mem h hk)
theorem open_sh : ∀ (n d : Nat) (t : TypeId) (l : List Sh) (fuel : Nat) (cs : List Value) (x : DataW H × List MemPlace), shOf P n d t = some l → DataW.trod enc P W 0 sp held fuel t cs = some x → (∀ k ∈ x.1.weights P t, k ≤ reachBytes) →
  ∃ avs, repDL (memOf W) d avs cs ∧ FitsL l avs
 | 0, _, _, _, _, _, _, h, _, _ => by simp [shOf] at h
 | n + 1, d, t, l, fuel, cs, x, h, ht, hw => by
  simp only [shOf] at h
  split at h
  · rename_i k hu
    injection h with h; subst h
    obtain ⟨i, rfl, rfl, hwf⟩ := DataW.trod_int hu ht
    exact ⟨[.int k i], ⟨rfl, trivial⟩, .int hwf, trivial⟩
  · rename_i hu
    injection h with h; subst h
    obtain ⟨b, rfl, rfl⟩ := DataW.trod_bool hu ht
    exact ⟨[.bool b], ⟨rfl, trivial⟩, .bool, trivial⟩
  · rename_i hu
    injection h with h; subst h
    obtain ⟨s, rfl, rfl, _⟩ := DataW.trod_string hu ht
    refine ⟨[.str s], ⟨rfl, trivial⟩, .str ?_, trivial⟩
    have := hw s.data.toList.length (by simp [DataW.weights])
    simpa using this
  · rename_i e hu
    split at h
    · cases h
    · rename_i d
      split at h
      · rename_i le hle
        split at h
        · rename_i k hk
          split at h
          · rename_i hc
            injection h with h; subst h
            have hks : k.shapes = le := by
             have := List.find?_some hk
             simpa using this
            subst hks
            rcases Go.Deep.open_slice hu ht with ⟨rfl, rfl⟩ | ⟨a, len, cap, m, n2, D, Pl, rfl, _, hl, _, hm, rfl, hel⟩
            · refine ⟨[.coll k.blank], ⟨⟨none, 0, by rw [blank_len], by rw [blank_len]; exact Nat.le_refl _, fun h0 => by rw [blank_len] at h0; omega⟩, trivial⟩, .row (blank_kind k) (by rw [blank_len]; exact Nat.zero_le _) fun i j sh y hi => by rw [blank_len] at hi; omega, trivial⟩
            · have hlm : len ≤ m := by rw [hm]; split <;> omega
              have hall : ∀ i, i < len → ∃ avs : List AV, ∃ cs', W.cells? 0 (a.add (i * P.cellsOf e)) (P.cellsOf e) = some cs' ∧ repDL (memOf W) d avs cs' ∧ FitsL k.shapes avs := by
               intro i hi
               obtain ⟨cs', h1, h2⟩ := hel i (by omega)
               obtain ⟨avs, h3, h4⟩ := open_sh n d e k.shapes n2 cs' (D i, Pl i) hle h2 (fun q hq => hw q (by
                simp only [DataW.weights, hu, List.mem_cons, List.mem_append]
                exact .inr (.inl (weightsAll_mem (List.mem_map.2 ⟨i, List.mem_range.2 hi, rfl⟩) hq))))
               exact ⟨avs, cs', h1, h3, h4⟩
              obtain ⟨es, hes⟩ := Go.Deep.choose_lt (p := fun i avs => ∃ cs', W.cells? 0 (a.add (i * P.cellsOf e)) (P.cellsOf e) = some cs' ∧ repDL (memOf W) d avs cs' ∧ FitsL k.shapes avs) hall
              obtain ⟨c, c1, c2, c3⟩ := build_ok k es len fun i hi => let ⟨_, _, _, h⟩ := hes i hi; h
              have hcs : P.cellsOf e = c.esz := by rw [hc.1, ← c1, esz_shapes]
              have hlen : c.len ≤ reachBytes := by
               have := hw ((((List.range len).map D).length + ((List.range (m - len)).map fun j => D (len + j)).length) * P.bytesOf e) (by simp [DataW.weights, hu])
               simp only [List.length_map, List.length_range] at this
               rw [c2]
               refine Nat.le_trans ?_ this
               refine Nat.le_trans ?_ (Nat.le_mul_of_pos_right _ hc.2)
               omega
              refine ⟨[.coll c], ⟨⟨some a, cap, by rw [c2], by rw [c2]; exact hl, fun h0 => ?_⟩, trivial⟩, .row c1 hlen fun i j sh y hi hsh hy => ?_, trivial⟩
              · have hsp : a.spot = none := by
                  obtain ⟨cs0, h1, h2, h3⟩ := hes 0 (by omega)
                  obtain ⟨_, hl0, hcell⟩ := World.cells?_some h1
                  have hpos : 0 < P.cellsOf e := by rw [hc.1]; exact shapes_pos k
                  have := hcell 0 hpos
                  rw [List.getElem?_eq_getElem (by omega)] at this
                  have e0 : (a.add (0 * P.cellsOf e)).add 0 = a := by simp [Addr.add]
                  rw [e0] at this
                  unfold World.cell? at this
                  split at this
                  · split at this
                    · cases this
                    · rename_i hs; simpa using hs
                  · cases this
                have hae : a = ⟨a.block, a.off, none⟩ := by cases a; simp at hsp; simp [hsp]
                refine ⟨a.block, a.off, by rw [← hae], fun i hi j y hy => ?_⟩
                rw [c2] at hi
                obtain ⟨cs', h1, h2, h3⟩ := hes i hi
                rw [c3 i hi] at hy
                obtain ⟨u, hu', hr⟩ := repDL_get h2 j y hy
                obtain ⟨_, hl', hcell⟩ := World.cells?_some h1
                have hj : j < P.cellsOf e := by rw [← hl']; exact (List.getElem?_eq_some_iff.1 hu').1
                refine ⟨u, ?_, ?_⟩
                · rw [← hu', ← hcell j hj, hae]
                  show W.cell? _ = _
                  rw [← hcs, Addr.add_lit, Addr.add_lit]
                · cases y <;> exact hr
              · rw [c2] at hi
                rw [c3 i hi] at hy
                obtain ⟨cs', h1, h2, h3⟩ := hes i hi
                exact h3.get hsh hy
          · cases h
        · cases h
      · cases h
  · rename_i fs hu
    split at h
    · rename_i l' hl'
      split at h
      · rename_i hc
        injection h with h; subst h
        obtain ⟨xs, n2, rfl, rfl, hcs, hxs, hel⟩ := DataW.trod_struct hu ht
        have := open_fields (g := shOf P n d) (d := d) (n := n2) (cs := cs) (fun t l cs x h1 h2 h3 => open_sh n d t l n2 cs x h1 h2 h3) fs.toList 0 l' xs hl' (by simpa using hxs) (fun i f hf => hel i f (by simpa using hf)) (fun k hk => hw k (by simp only [DataW.weights, hu]; exact hk)) (by omega)
        simpa using this
      · cases h
    · cases h
  · rename_i m e hu
    split at h
    · rename_i le hle
      split at h
      · rename_i hc
        injection h with h; subst h
        obtain ⟨xs, n2, rfl, rfl, hcs, hxs, hel⟩ := DataW.trod_array hu ht
        have := open_array (d := d) (n := n2) (le := le) (e := e) (cs := cs) hxs (by rw [hcs, hc.2]) (fun i hi => by rw [← hc.1]; exact hel i hi) (fun x hx k hk => hw k (by
         simp only [DataW.weights, hu]
         exact weightsAll_mem (List.mem_map.2 ⟨x, hx, rfl⟩) hk)) (fun cs x h2 h3 => open_sh n d e le n2 cs x hle h2 h3) m (Nat.le_refl _)
        simpa using this
      · cases h
    · cases h
  · cases h
end
end Go.Eng
end
section
namespace Go.Eng
open Go.RowKit (Below)

theorem rep_of_repD {ρ : Loc} {M : Mem} {s : Sh} {x : AV} {v : Value} (hf : Fits s x) (h : repD M (DEP + 1) x v) : rep ρ M noG x v := by
 cases hf <;> simp only [repD, sc] at h <;> simp only [rep] <;> exact h
theorem repL_of_repD {ρ : Loc} {M : Mem} : ∀ {l : List Sh} {xs : List AV} {vs : List Value}, FitsL l xs → repDL M (DEP + 1) xs vs → repL ρ M noG xs vs
 | [], [], [], _, _ => by simp [repL]
 | s :: l, x :: xs, v :: vs, hf, h => by simp only [repL]; exact ⟨rep_of_repD hf.1 h.1, repL_of_repD hf.2 h.2⟩
 | [], [], _ :: _, _, h => h.elim
 | [], _ :: _, _, hf, _ => hf.elim
 | _ :: _, [], _, hf, _ => hf.elim
 | _ :: _, _ :: _, [], _, h => h.elim
def argShapes (P : Program) : List TypeId → Option (List (Bool × List Sh))
 | [] => some []
 | t :: ts => match shOf P 9 (DEP + 1) t, argShapes P ts with
  | some l, some r => some ((tagg P t, l) :: r)
  | _, _ => none
def ArgsFit : List (Bool × List Sh) → List AV → Prop
 | [], [] => True
 | (g, l) :: r, x :: xs => (∃ avs, FitsL l avs ∧ x = (if g then .agg avs else avs.headD .unk)) ∧ ArgsFit r xs
 | _, _ => False
section
variable {H : Type} {enc : TypeId × Value → H} {P : Program} {W : World} {sp : Nat → Bool} {held : Bool}
theorem open_arg {t : TypeId} {l : List Sh} {v : Value} {d : DataW H} {p : List MemPlace} {ρ : Loc} (hs : shOf P 9 (DEP + 1) t = some l) (h : DataW.Trod enc P W 0 sp held t v d p) (hval : Value.okWide P W .any 0 t v)
  (hw : ∀ k ∈ d.weights P t, k ≤ reachBytes) : ∃ avs, FitsL l avs ∧ rep ρ (memOf W) noG (if tagg P t then .agg avs else avs.headD .unk) v := by
 obtain ⟨fuel, ht⟩ := h
 obtain ⟨avs, h1, h2⟩ := open_sh 9 (DEP + 1) t l fuel _ _ hs ht hw
 refine ⟨avs, h2, ?_⟩
 have h3 := repL_of_repD (ρ := ρ) h2 h1
 have single : (∃ u : Value, v.cells.toList = [u] ∧ v = u) → tagg P t = false → rep ρ (memOf W) noG (if tagg P t then .agg avs else avs.headD .unk) v := by
  rintro ⟨u, hu, rfl⟩ hg
  rw [hu] at h3
  rw [if_neg (by rw [hg]; simp)]
  match avs, h3 with
  | [x], h3 => simpa [repL] using h3
  | [], h3 => simp [repL] at h3
  | _ :: _ :: _, h3 => simp [repL] at h3
 have hshape := hs
 simp only [shOf] at hshape
 split at hshape
 · rename_i k hu
   obtain ⟨n, rfl⟩ := Go.WideShapes.okWide_int hu hval
   exact single ⟨_, rfl, rfl⟩ (by simp [tagg, hu])
 · rename_i hu
   obtain ⟨n, rfl⟩ := Go.WideShapes.okWide_bool hu hval
   exact single ⟨_, rfl, rfl⟩ (by simp [tagg, hu])
 · rename_i hu
   obtain ⟨n, rfl⟩ := Go.WideShapes.okWide_string hu hval
   exact single ⟨_, rfl, rfl⟩ (by simp [tagg, hu])
 · rename_i e hu
   obtain ⟨a, n, c, rfl⟩ := Go.WideShapes.okWide_slice hu hval
   exact single ⟨_, rfl, rfl⟩ (by simp [tagg, hu])
 · rename_i fs hu
   have hg : tagg P t = true := by simp [tagg, hu]
   unfold Value.okWide at hval
   simp only [hu] at hval
   obtain ⟨cs, rfl, _⟩ := hval
   rw [if_pos hg]
   simp only [rep]
   exact ⟨cs.toList, by simp, h3⟩
 · rename_i m e hu
   have hg : tagg P t = true := by simp [tagg, hu]
   unfold Value.okWide at hval
   simp only [hu] at hval
   obtain ⟨cs, rfl, _⟩ := hval
   rw [if_pos hg]
   simp only [rep]
   exact ⟨cs.toList, by simp, h3⟩
 · cases hshape
theorem open_args {ρ : Loc} : ∀ {ts : List TypeId} {vs : List Value} {ds : List (DataW H)} {p : List MemPlace} {r : List (Bool × List Sh)}, argShapes P ts = some r → DataW.TrodAll enc P W 0 sp held ts vs ds p →
  (∀ (j : Nat) t v, ts[j]? = some t → vs[j]? = some v → Value.okWide P W .any 0 t v) → (∀ k ∈ DataW.weightsEach P ts ds, k ≤ reachBytes) → ∃ xs, ArgsFit r xs ∧ repL ρ (memOf W) noG xs vs
 | [], vs, ds, p, r, hs, h, _, _ => by
  obtain ⟨rfl, _, _⟩ := Go.ChangeShapes.trodAll_nil h
  simp only [argShapes, Option.some.injEq] at hs
  subst hs
  exact ⟨[], trivial, by simp [repL]⟩
 | t :: ts, vs, ds, p, r, hs, h, hval, hw => by
  obtain ⟨v, vs', d, ds', p1, q1, rfl, rfl, _, ht, hts⟩ := Go.ChangeShapes.trodAll_cons h
  simp only [argShapes] at hs
  split at hs
  · rename_i l r' hl hr
    injection hs with hs
    subst hs
    simp only [DataW.weightsEach, List.mem_append] at hw
    obtain ⟨avs, a1, a2⟩ := open_arg (ρ := ρ) hl ht (hval 0 t v rfl rfl) fun k hk => hw k (.inl hk)
    obtain ⟨xs, b1, b2⟩ := open_args (ρ := ρ) hr hts (fun j t' v' h1 h2 => hval (j + 1) t' v' (by simpa using h1) (by simpa using h2)) fun k hk => hw k (.inr hk)
    exact ⟨_ :: xs, ⟨⟨avs, a1, rfl⟩, b1⟩, by simp only [repL]; exact ⟨a2, b2⟩⟩
  · cases hs
theorem trodAll_lt {held : Bool} : ∀ {ts : List TypeId} {vs : List Value} {ds : List (DataW H)} {p : List MemPlace}, DataW.TrodAll enc P W 0 sp held ts vs ds p → ∀ x ∈ p, x.block < W.heap.size
 | [], vs, ds, p, h => by obtain ⟨_, _, rfl⟩ := Go.ChangeShapes.trodAll_nil h; simp
 | t :: ts, vs, ds, p, h => by
  obtain ⟨v, vs', d, ds', p1, q1, rfl, rfl, rfl, ht, hts⟩ := Go.ChangeShapes.trodAll_cons h
  intro x hx
  rcases List.mem_append.1 hx with hx | hx
  · obtain ⟨m, hm⟩ := ht
    exact DataW.trod_lt m _ _ _ hm x hx
  · exact trodAll_lt hts x hx
theorem below_all {W' : World} (hl : laidOutB P = true) (hb : Below W.heap.size W W') : ∀ {ts : List TypeId} {vs : List Value} {ds : List (DataW H)} {p : List MemPlace}, (ts.all fun t => P.readableRec t && decide (t < P.types.size)) = true → DataW.TrodAll enc P W 0 (fun _ => true) true ts vs ds p →
  DataW.TrodAll enc P W' 0 (fun b => decide (b < W.heap.size)) true ts vs ds p
 | [], vs, ds, p, _, h => by
  obtain ⟨rfl, rfl, rfl⟩ := Go.ChangeShapes.trodAll_nil h
  exact Go.ChangeShapes.trodAll_mk0
 | t :: ts, vs, ds, p, hr, h => by
  have hlt := trodAll_lt h
  obtain ⟨v, vs', d, ds', p1, q1, rfl, rfl, rfl, ht, hts⟩ := Go.ChangeShapes.trodAll_cons h
  simp only [List.all_cons, Bool.and_eq_true, decide_eq_true_eq] at hr
  exact ⟨p1, q1, Below.trod hl hr.1.1 hr.1.2 ht hb fun x hx => hlt x (List.mem_append_left _ hx), below_all hl hb (by simpa using hr.2) hts, rfl⟩
end
theorem calls_of_law {P : Program} {n : FuncId} {xs : List AV} {vs : List Value} {W : World} (hK : KSound P n xs [] 0 (.bool true) []) (hrep : repL ⟨fun _ => none, fun _ => none⟩ (memOf W) noG xs vs) (hG : ∀ w', (∀ k, k < W.heap.size → w'.heap[k]? = W.heap[k]?) → Globs.G w') :
  Calls P n ⟨vs⟩ W fun e w' => e = .returned (.bool true) ∧ Below W.heap.size W w' := by
 refine (hK (fun b => b < W.heap.size) W (memOf W) [] W ⟨fun _ => none, fun _ => none⟩ (memOf W) vs ⟨fun id => by simp [hget, okObj], fun _ _ => rfl, fun r i h1 => by simp at h1, fun _ _ _ h => h, fun _ _ _ => rfl, Keeps.refl _ _, fun _ h => h, hG⟩ (fun id h => by simp [hget] at h) (by simp) hrep).mono ?_
 rintro e w' ⟨v, ρ', M', rfl, _, _, h3, h4⟩
 simp only [rep] at h4
 subst h4
 exact ⟨rfl, h3.below.below⟩
end Go.Eng
end
section
namespace Go.Eng

theorem wf_i64 {n : Int} (h : (Lit.int .i64 n).wf = true) : -9223372036854775808 ≤ n ∧ n ≤ 9223372036854775807 := by
 simp [Lit.wf, IntKind.min, IntKind.max, IntKind.signed, IntKind.bits] at h; omega
theorem wf_u64 {n : Int} (h : (Lit.int .u64 n).wf = true) : 0 ≤ n ∧ n ≤ 18446744073709551615 := by
 simp [Lit.wf, IntKind.min, IntKind.max, IntKind.signed, IntKind.bits] at h; omega
theorem wf_u8 {n : Int} (h : (Lit.int .u8 n).wf = true) : 0 ≤ n ∧ n ≤ 255 := by
 simp [Lit.wf, IntKind.min, IntKind.max, IntKind.signed, IntKind.bits] at h; omega
structure XObj.Ok (x : XObj) : Prop where
 kind : (Lit.int .u8 x.kind).wf = true
 name : x.name.size ≤ reachBytes
 version : (Lit.int .u64 x.version).wf = true
 born : (Lit.int .u64 x.born).wf = true
 cls : x.cls.size ≤ reachBytes
 size : (Lit.int .i64 x.size).wf = true
 got : (Lit.int .i64 x.got).wf = true
 mode : (Lit.int .u8 x.mode).wf = true
 zone : x.zone.size ≤ reachBytes
 node : x.node.size ≤ reachBytes
 claim : x.claim.size ≤ reachBytes
 volume : x.volume.size ≤ reachBytes
 source : x.source.size ≤ reachBytes
 phase : (Lit.int .u8 x.phase).wf = true
 num : (Lit.int .u64 x.num).wf = true
 tag : (Lit.int .u64 x.tag).wf = true
structure XCall.Ok (x : XCall) : Prop where
 verb : (Lit.int .u8 x.verb).wf = true
 target : x.target.size ≤ reachBytes
 num : (Lit.int .u64 x.num).wf = true
 size : (Lit.int .i64 x.size).wf = true
 zone : x.zone.size ≤ reachBytes
 node : x.node.size ≤ reachBytes
 source : x.source.size ≤ reachBytes
structure XAsk.Ok (x : XAsk) : Prop where
 who : x.who.size ≤ reachBytes
 now : (Lit.int .u64 x.now).wf = true
 span : (Lit.int .u64 x.span).wf = true
structure XLabel.Ok (x : XLabel) : Prop where
 key : x.key.size ≤ reachBytes
 value : x.value.size ≤ reachBytes
structure XTerm.Ok (x : XTerm) : Prop where
 key : x.key.size ≤ reachBytes
 values : x.values.length ≤ reachBytes ∧ ∀ s ∈ x.values, s.size ≤ reachBytes
structure XZone.Ok (x : XZone) : Prop where
 name : x.name.size ≤ reachBytes
 room : (Lit.int .i64 x.room).wf = true
structure XVol.Ok (x : XVol) : Prop where
 name : x.name.size ≤ reachBytes
 size : (Lit.int .i64 x.size).wf = true
 zone : x.zone.size ≤ reachBytes
 tag : (Lit.int .u64 x.tag).wf = true
 nodes : x.nodes.length ≤ reachBytes ∧ ∀ s ∈ x.nodes, s.size ≤ reachBytes
structure XSnap.Ok (x : XSnap) : Prop where
 name : x.name.size ≤ reachBytes
 size : (Lit.int .i64 x.size).wf = true
 tag : (Lit.int .u64 x.tag).wf = true
structure XSn.Ok (x : XSn) : Prop where
 size : (Lit.int .i64 x.size).wf = true
 tag : (Lit.int .u64 x.tag).wf = true
structure XKey.Ok (x : XKey) : Prop where
 kind : (Lit.int .u8 x.kind).wf = true
 name : x.name.size ≤ reachBytes
structure XDeed.Ok (x : XDeed) : Prop where
 c_verb : (Lit.int .u8 x.c.verb).wf = true
 c_target : x.c.target.size ≤ reachBytes
 c_num : (Lit.int .u64 x.c.num).wf = true
 c_size : (Lit.int .i64 x.c.size).wf = true
 c_zone : x.c.zone.size ≤ reachBytes
 c_node : x.c.node.size ≤ reachBytes
 c_source : x.c.source.size ≤ reachBytes
 tag : (Lit.int .u64 x.tag).wf = true
structure XDeed2.Ok (x : XDeed2) : Prop where
 c_verb : (Lit.int .u8 x.c.verb).wf = true
 c_target : x.c.target.size ≤ reachBytes
 c_num : (Lit.int .u64 x.c.num).wf = true
 c_size : (Lit.int .i64 x.c.size).wf = true
 c_zone : x.c.zone.size ≤ reachBytes
 c_node : x.c.node.size ≤ reachBytes
 c_source : x.c.source.size ≤ reachBytes
 o : (Lit.int .u8 x.o).wf = true
 tag : (Lit.int .u64 x.tag).wf = true
 i : (Lit.int .i64 x.i).wf = true
structure XEvent.Ok (x : XEvent) : Prop where
 version : (Lit.int .u64 x.version).wf = true
 obj_kind : (Lit.int .u8 x.obj.kind).wf = true
 obj_name : x.obj.name.size ≤ reachBytes
 obj_version : (Lit.int .u64 x.obj.version).wf = true
 obj_born : (Lit.int .u64 x.obj.born).wf = true
 obj_cls : x.obj.cls.size ≤ reachBytes
 obj_size : (Lit.int .i64 x.obj.size).wf = true
 obj_got : (Lit.int .i64 x.obj.got).wf = true
 obj_mode : (Lit.int .u8 x.obj.mode).wf = true
 obj_zone : x.obj.zone.size ≤ reachBytes
 obj_node : x.obj.node.size ≤ reachBytes
 obj_claim : x.obj.claim.size ≤ reachBytes
 obj_volume : x.obj.volume.size ≤ reachBytes
 obj_source : x.obj.source.size ≤ reachBytes
 obj_phase : (Lit.int .u8 x.obj.phase).wf = true
 obj_num : (Lit.int .u64 x.obj.num).wf = true
 obj_tag : (Lit.int .u64 x.obj.tag).wf = true
end Go.Eng
end
section
namespace Go.Eng

inductive CP where
 | int (k : IntKind)
 | bool
 | str
 | coll (k : Kind)
 | ptr (j off : Nat)
 | vec (j : Nat)
 | map (j : Nat)
 | yld (j : Nat)

 | mapq (j jn : Nat)

 | any
 | nilp
 | nilf
 | nili
 | nilm
 | nils
 | fn (f : FuncId)
abbrev CP.Ty : CP → Type
 | .int _ => Int
 | .bool => Bool
 | .str => ByteArray
 | .coll k => List k.Ty
 | .mapq _ _ => Bool
 | _ => Unit
def CP.enc : (p : CP) → p.Ty → AV
 | .int k, n => .int k n
 | .bool, b => .bool b
 | .str, s => .str s
 | .coll k, l => .coll ⟨k, l⟩
 | .ptr j off, _ => .ptr j off
 | .vec j, _ => .vec j
 | .map j, _ => .map j
 | .yld j, _ => .yld j
 | .mapq j jn, b => .mapq b j jn
 | .any, _ => .unk
 | .nilp, _ => .nilp
 | .nilf, _ => .nilf
 | .nili, _ => .nili
 | .nilm, _ => .nilm
 | .nils, _ => .nils
 | .fn f, _ => .fn f []
def CP.dec (ids : List Nat) : (p : CP) → AV → Option p.Ty
 | .int k, x => match x with | .int k' n => if k' = k then some n else none | _ => none
 | .bool, x => match x with | .bool b => some b | _ => none
 | .str, x => match x with | .str s => some s | _ => none
 | .coll k, x => match x with | .coll c => if h : c.k = k then some (h ▸ c.xs) else none | _ => none
 | .ptr j off, x => match x with | .ptr id off' => if ids[j]? = some id ∧ off' = off then some () else none | _ => none
 | .vec j, x => match x with | .vec id => if ids[j]? = some id then some () else none | _ => none
 | .map j, x => match x with | .map id => if ids[j]? = some id then some () else none | _ => none
 | .yld j, x => match x with | .yld id => if ids[j]? = some id then some () else none | _ => none
 | .mapq j jn, x => match x with | .mapq b id n => if ids[j]? = some id ∧ ids[jn]? = some n then some b else none | _ => none
 | .any, x => match x with | .unk => some () | _ => none
 | .nilp, x => match x with | .nilp => some () | _ => none
 | .nilf, x => match x with | .nilf => some () | _ => none
 | .nili, x => match x with | .nili => some () | _ => none
 | .nilm, x => match x with | .nilm => some () | _ => none
 | .nils, x => match x with | .nils => some () | _ => none
 | .fn f, x => match x with | .fn g cap => if g = f ∧ cap.isEmpty then some () else none | _ => none
def CP.ids (p : CP) (x : AV) (acc : List Nat) : List Nat :=
 match p, x with
 | .ptr j _, .ptr id _ => if acc.length = j then acc ++ [id] else acc
 | .vec j, .vec id => if acc.length = j then acc ++ [id] else acc
 | .map j, .map id => if acc.length = j then acc ++ [id] else acc
 | .yld j, .yld id => if acc.length = j then acc ++ [id] else acc
 | .mapq j jn, .mapq _ id n => let acc' := if acc.length = j then acc ++ [id] else acc; if acc'.length = jn then acc' ++ [n] else acc'
 | _, _ => acc
theorem sig_at {ids : List Nat} {nid j id : Nat} (h : ids[j]? = some id) : sig ids nid j = id := by
 obtain ⟨hj, h⟩ := List.getElem?_eq_some_iff.1 h
 simp [sig, hj, List.getD_eq_getElem?_getD, h]
theorem CP.dec_eq {ids : List Nat} (nid : Nat) (p : CP) {x : AV} {y : p.Ty} (h : p.dec ids x = some y) : x = ren (sig ids nid) (p.enc y) := by
 cases p with
 | int k =>
  simp only [CP.dec] at h
  split at h
  · split at h
    · rename_i hk; injection h with h; subst h; subst hk; simp [CP.enc, ren]
    · cases h
  · cases h
 | bool => simp only [CP.dec] at h; split at h <;> first | (injection h with h; subst h; simp [CP.enc, ren]) | cases h
 | str => simp only [CP.dec] at h; split at h <;> first | (injection h with h; subst h; simp [CP.enc, ren]) | cases h
 | coll k =>
  simp only [CP.dec] at h
  split at h
  · rename_i c
    split at h
    · rename_i hk
      injection h with h
      obtain ⟨k', l⟩ := c
      simp only at hk
      subst hk
      subst h
      simp [CP.enc, ren]
    · cases h
  · cases h
 | ptr j off =>
  simp only [CP.dec] at h
  split at h
  · split at h
    · rename_i hk; simp [CP.enc, ren, sig_at hk.1, hk.2]
    · cases h
  · cases h
 | vec j =>
  simp only [CP.dec] at h
  split at h
  · split at h
    · rename_i hk; simp [CP.enc, ren, sig_at hk]
    · cases h
  · cases h
 | map j =>
  simp only [CP.dec] at h
  split at h
  · split at h
    · rename_i hk; simp [CP.enc, ren, sig_at hk]
    · cases h
  · cases h
 | yld j =>
  simp only [CP.dec] at h
  split at h
  · split at h
    · rename_i hk; simp [CP.enc, ren, sig_at hk]
    · cases h
  · cases h
 | mapq j jn =>
  simp only [CP.dec] at h
  split at h
  · split at h
    · rename_i hk; injection h with h; subst h; simp [CP.enc, ren, sig_at hk.1, sig_at hk.2]
    · cases h
  · cases h
 | fn f =>
  simp only [CP.dec] at h
  split at h
  · split at h
    · rename_i hk; obtain ⟨rfl, hk⟩ := hk; simp only [List.isEmpty_iff] at hk; subst hk; simp [CP.enc, ren, renL]
    · cases h
  · cases h
 | _ => simp only [CP.dec] at h; split at h <;> first | (cases h; done) | simp [CP.enc, ren]
abbrev CPL.Ty : List CP → Type
 | [] => Unit
 | p :: ps => p.Ty × CPL.Ty ps
def CPL.enc : (ps : List CP) → CPL.Ty ps → List AV
 | [], _ => []
 | p :: ps, t => p.enc t.1 :: CPL.enc ps t.2
def CPL.dec (ids : List Nat) : (ps : List CP) → List AV → Option (CPL.Ty ps)
 | [], l => match l with | [] => some () | _ => none
 | p :: ps, l => match l with
  | x :: xs => match p.dec ids x, CPL.dec ids ps xs with
   | some y, some ys => some (y, ys)
   | _, _ => none
  | [] => none
def CPL.ids : List CP → List AV → List Nat → List Nat
 | p :: ps, x :: xs, acc => CPL.ids ps xs (p.ids x acc)
 | _, _, acc => acc
theorem CPL.dec_eq {ids : List Nat} (nid : Nat) : ∀ (ps : List CP) {l : List AV} {t : CPL.Ty ps}, CPL.dec ids ps l = some t → l = renL (sig ids nid) (CPL.enc ps t)
 | [], l, t, h => by
  simp only [CPL.dec] at h
  split at h
  · rfl
  · cases h
 | p :: ps, l, t, h => by
  simp only [CPL.dec] at h
  split at h
  · split at h
    · rename_i y ys hy hys
      injection h with h
      subst h
      simp only [CPL.enc, renL]
      rw [← CP.dec_eq nid p hy, ← CPL.dec_eq nid ps hys]
    · cases h
  · cases h
theorem renL_sc {σ : Nat → Nat} : ∀ {l : List AV}, (∀ x ∈ l, x.isSc = true ∨ x.isColl = true) → renL σ l = l
 | [], _ => rfl
 | x :: l, h => by
  simp only [renL]
  rw [renL_sc fun y hy => h y (List.mem_cons_of_mem _ hy)]
  have := h x List.mem_cons_self
  cases x <;> simp [AV.isSc, AV.isColl] at this <;> simp [ren]
theorem Kind.dec_flat {k : Kind} (hf : k.flat = true) {l : List AV} {y : k.Ty} (h : k.dec l = some y) : l = k.enc y := by
 have hl := k.dec_like h
 have key : ∀ {l m : List AV}, likeL l m → (∀ z ∈ m, z.isColl = false) → l = m := by
  intro l
  induction l with
  | nil => intro m hl _; cases m <;> simp [likeL] at hl ⊢
  | cons x l ih =>
   intro m hl hm
   cases m with
   | nil => simp [likeL] at hl
   | cons z m =>
    simp only [likeL] at hl
    rw [ih hl.2 fun z hz => hm z (List.mem_cons_of_mem _ hz)]
    rcases hl.1 with rfl | ⟨rfl, k, rfl⟩
    · rfl
    · have := hm _ List.mem_cons_self; simp [AV.isColl] at this
 refine key hl fun z hz => ?_
 obtain ⟨m, hm, rfl⟩ := List.mem_iff_getElem.1 hz
 have hd : k.depth = 0 := by cases k <;> simp [Kind.flat] at hf <;> rfl
 rcases k.enc_cell y m _ (List.getElem?_eq_getElem hm) with ⟨c, _, hlt⟩ | hs
 · omega
 · generalize (k.enc y)[m] = z at hs
   cases z <;> simp [AV.isSc] at hs <;> rfl
theorem Kind.enc_ren {k : Kind} {σ : Nat → Nat} (x : k.Ty) : renL σ (k.enc x) = k.enc x := by
 refine renL_sc fun z hz => ?_
 obtain ⟨m, hm, rfl⟩ := List.mem_iff_getElem.1 hz
 rcases k.enc_cell x m _ (List.getElem?_eq_getElem hm) with ⟨c, hc, _⟩ | hs
 · exact .inr (by rw [hc]; rfl)
 · exact .inl hs
def decAct (l : List AV) : Option XAct := match l.take 1, decObj ((l.drop 1).take 20), decCall (l.drop 21) with
 | [.int .u8 a], some o, some c => some ⟨a, o, c⟩
 | _, _, _ => none
theorem decAct_eq {l : List AV} {x : XAct} (h : decAct l = some x) : l = encAct x := by
 unfold decAct at h
 split at h
 · rename_i a o c h1 h2 h3
   injection h with h
   subst h
   have e : l = l.take 1 ++ ((l.drop 1).take 20 ++ l.drop 21) := by
    have e2 : l.drop 1 = (l.drop 1).take 20 ++ l.drop 21 := by
     have := (List.take_append_drop 20 (l.drop 1)).symm
     rwa [List.drop_drop] at this
    rw [← e2, List.take_append_drop]
   rw [e, h1, decObj_eq h2, decCall_eq h3]
   rfl
 · cases h

inductive TP where
 | c (p : CP)
 | st (k : Kind)
 | act
 | res
 | agg (ps : List CP)
 | fn (f : FuncId) (ps : List CP)

 | lit (k : IntKind) (n : Int)
abbrev TP.Ty : TP → Type
 | .c p => p.Ty
 | .st k => k.Ty
 | .act => XAct
 | .res => XRes
 | .agg ps => CPL.Ty ps
 | .fn _ ps => CPL.Ty ps
 | .lit _ _ => Unit
def TP.enc : (p : TP) → p.Ty → AV
 | .c p, x => p.enc x
 | .st k, x => .agg (k.enc x)
 | .act, x => .agg (encAct x)
 | .res, x => .agg (encRes x)
 | .agg ps, x => .agg (CPL.enc ps x)
 | .fn f ps, x => .fn f (CPL.enc ps x)
 | .lit k n, _ => .int k n
def TP.dec (ids : List Nat) : (p : TP) → AV → Option p.Ty
 | .c p, x => p.dec ids x
 | .st k, x => match x with | .agg l => if k.flat then k.dec l else none | _ => none
 | .act, x => match x with | .agg l => decAct l | _ => none
 | .res, x => match x with | .agg l => decRes l | _ => none
 | .agg ps, x => match x with | .agg l => CPL.dec ids ps l | _ => none
 | .fn f ps, x => match x with | .fn g l => if g = f then CPL.dec ids ps l else none | _ => none
 | .lit k n, x => match x with | .int k' n' => if k' = k ∧ n' = n then some () else none | _ => none
def TP.ids : TP → AV → List Nat → List Nat
 | .c p, x, acc => p.ids x acc
 | .agg ps, .agg l, acc => CPL.ids ps l acc
 | .fn _ ps, .fn _ l, acc => CPL.ids ps l acc
 | _, _, acc => acc
theorem TP.dec_eq {ids : List Nat} (nid : Nat) (p : TP) {x : AV} {y : p.Ty} (h : p.dec ids x = some y) : x = ren (sig ids nid) (p.enc y) := by
 cases p <;> simp only [TP.dec] at h
 case c p => exact CP.dec_eq nid p h
 case st k =>
  split at h <;> try cases h
  split at h <;> try cases h
  rename_i hf
  simp only [TP.enc, ren, Kind.enc_ren]
  rw [Kind.dec_flat hf h]
 case act =>
  split at h <;> try cases h
  rw [decAct_eq h]
  simp only [TP.enc, ren]
  rw [renL_sc]
  simp [encAct, AV.isSc]
 case res =>
  split at h <;> try cases h
  rw [decRes_eq h]
  simp only [TP.enc, ren]
  rw [renL_sc]
  simp [encRes, AV.isSc]
 case agg ps =>
  split at h <;> try cases h
  simp only [TP.enc, ren]
  rw [← CPL.dec_eq nid ps h]
 case fn f ps =>
  split at h <;> try cases h
  split at h <;> try cases h
  rename_i hf
  subst hf
  simp only [TP.enc, ren]
  rw [← CPL.dec_eq nid ps h]
 case lit k n =>
  split at h <;> try cases h
  split at h <;> try cases h
  rename_i hk
  obtain ⟨rfl, rfl⟩ := hk
  simp [TP.enc, ren]
abbrev TPL.Ty : List TP → Type
 | [] => Unit
 | p :: ps => p.Ty × TPL.Ty ps
def TPL.enc : (ps : List TP) → TPL.Ty ps → List AV
 | [], _ => []
 | p :: ps, t => p.enc t.1 :: TPL.enc ps t.2
def TPL.dec (ids : List Nat) : (ps : List TP) → List AV → Option (TPL.Ty ps)
 | [], l => match l with | [] => some () | _ => none
 | p :: ps, l => match l with
  | x :: xs => match p.dec ids x, TPL.dec ids ps xs with
   | some y, some ys => some (y, ys)
   | _, _ => none
  | [] => none
def TPL.ids : List TP → List AV → List Nat → List Nat
 | p :: ps, x :: xs, acc => TPL.ids ps xs (p.ids x acc)
 | _, _, acc => acc
theorem TPL.dec_eq {ids : List Nat} (nid : Nat) : ∀ (ps : List TP) {l : List AV} {t : TPL.Ty ps}, TPL.dec ids ps l = some t → l = renL (sig ids nid) (TPL.enc ps t)
 | [], l, t, h => by
  simp only [TPL.dec] at h
  split at h
  · rfl
  · cases h
 | p :: ps, l, t, h => by
  simp only [TPL.dec] at h
  split at h
  · split at h
    · rename_i y ys hy hys
      injection h with h
      subst h
      simp only [TPL.enc, renL]
      rw [← TP.dec_eq nid p hy, ← TPL.dec_eq nid ps hys]
    · cases h
  · cases h
inductive HP where
 | cells (t : TypeId) (ps : List CP)
 | st (t : TypeId) (k : Kind)
 | act (t : TypeId)
 | res (t : TypeId)
 | vec (f : Bool) (k : Kind)
 | map (k v : Kind)
 | loop (site : Nat) (ps : List CP)
 | var (t : TypeId) (ps : List CP) (f : Bool) (k : Kind)
 | vols

 | volsA (jn : Nat)

 | dead
abbrev HP.Ty : HP → Type
 | .cells _ ps => CPL.Ty ps
 | .st _ k => k.Ty
 | .act _ => XAct
 | .res _ => XRes
 | .vec _ k => List k.Ty
 | .map k v => List (k.Ty × v.Ty)
 | .loop _ ps => CPL.Ty ps
 | .var _ ps _ k => List k.Ty × CPL.Ty ps
 | .vols => List (ByteArray × XVn)
 | .volsA _ => List (ByteArray × XVn) × ByteArray × Unit
 | .dead => Unit
def HP.enc : (p : HP) → p.Ty → AObj
 | .cells t ps, x => .cells t (CPL.enc ps x)
 | .st t k, x => .cells t (k.enc x)
 | .act t, x => .cells t (encAct x)
 | .res t, x => .cells t (encRes x)
 | .vec f k, l => .vec f ⟨k, l⟩
 | .map k v, l => .map ⟨k, v, l⟩
 | .loop n ps, x => .loop n (CPL.enc ps x) none
 | .var t ps f k, x => .var t (CPL.enc ps x.2) f ⟨k, x.1⟩
 | .vols, l => .vols l none
 | .volsA jn, x => .vols x.1 (some (jn, x.2.1))
 | .dead, _ => .dead
def HP.live : HP → Bool
 | .dead => false
 | _ => true
def HP.dec (ids : List Nat) : (p : HP) → AObj → Option p.Ty
 | .cells t ps, o => match o with | .cells t' l => if t' = t then CPL.dec ids ps l else none | _ => none
 | .st t k, o => match o with | .cells t' l => if t' = t ∧ k.flat then k.dec l else none | _ => none
 | .act t, o => match o with | .cells t' l => if t' = t then decAct l else none | _ => none
 | .res t, o => match o with | .cells t' l => if t' = t then decRes l else none | _ => none
 | .vec f k, o => match o with | .vec f' c => if h : c.k = k then (if f' = f then some (h ▸ c.xs) else none) else none | _ => none
 | .map k v, o => match o with | .map m => if h : m.k = k ∧ m.v = v then some (h.1 ▸ h.2 ▸ m.es) else none | _ => none
 | .loop n ps, o => match o with | .loop m l none => if m = n then CPL.dec ids ps l else none | _ => none
 | .var t ps f k, o => match o with | .var t' p' f' c => (match CPL.dec ids ps p' with | some y => if h : c.k = k then (if f' = f ∧ t' = t then some (h ▸ c.xs, y) else none) else none | none => none) | _ => none
 | .vols, o => match o with | .vols es none => some es | _ => none
 | .volsA jn, o => match o with | .vols es (some (n, k)) => if ids[jn]? = some n then some (es, k, ()) else none | _ => none
 | .dead, o => match o with | .dead => some () | _ => none
def HP.ids : HP → AObj → List Nat → List Nat
 | .cells _ ps, .cells _ l, acc => CPL.ids ps l acc
 | .loop _ ps, .loop _ l _, acc => CPL.ids ps l acc
 | .volsA jn, .vols _ (some (n, _)), acc => if acc.length = jn then acc ++ [n] else acc
 | _, _, acc => acc
theorem HP.dec_eq {ids : List Nat} (nid : Nat) (p : HP) {x : AObj} {y : p.Ty} (h : p.dec ids x = some y) : x = renO (sig ids nid) (p.enc y) ∧ (p.live = true → x ≠ .dead) := by
 cases p <;> simp only [HP.dec] at h
 case cells t ps =>
  split at h <;> try cases h
  split at h <;> try cases h
  rename_i ht
  subst ht
  simp only [HP.enc, renO]
  rw [← CPL.dec_eq nid ps h]
  exact ⟨rfl, fun _ => nofun⟩
 case st t k =>
  split at h <;> try cases h
  split at h <;> try cases h
  rename_i hf
  obtain ⟨rfl, hf⟩ := hf
  simp only [HP.enc, renO, Kind.enc_ren]
  rw [Kind.dec_flat hf h]
  exact ⟨rfl, fun _ => nofun⟩
 case act t =>
  split at h <;> try cases h
  split at h <;> try cases h
  rename_i ht
  subst ht
  rw [decAct_eq h]
  simp only [HP.enc, renO]
  rw [renL_sc (by simp [encAct, AV.isSc])]
  exact ⟨rfl, fun _ => nofun⟩
 case res t =>
  split at h <;> try cases h
  split at h <;> try cases h
  rename_i ht
  subst ht
  rw [decRes_eq h]
  simp only [HP.enc, renO]
  rw [renL_sc (by simp [encRes, AV.isSc])]
  exact ⟨rfl, fun _ => nofun⟩
 case vec f k =>
  split at h <;> try cases h
  split at h <;> try cases h
  rename_i c hk
  split at h <;> try cases h
  rename_i hf
  subst hf
  obtain ⟨k', l⟩ := c
  simp only at hk
  subst hk
  exact ⟨rfl, fun _ => nofun⟩
 case var t ps f k =>
  split at h <;> try cases h
  rename_i t' p' f' c
  split at h <;> try cases h
  rename_i y hy
  split at h <;> try cases h
  rename_i hk
  split at h <;> try cases h
  rename_i hf
  obtain ⟨rfl, rfl⟩ := hf
  obtain ⟨k', l⟩ := c
  simp only at hk
  subst hk
  simp only [HP.enc, renO]
  rw [← CPL.dec_eq nid ps hy]
  exact ⟨rfl, fun _ => nofun⟩
 case vols =>
  split at h <;> try cases h
  exact ⟨rfl, fun _ => nofun⟩
 case volsA jn =>
  split at h <;> try cases h
  split at h <;> try cases h
  rename_i hk
  simp only [HP.enc, renO, sig_at hk]
  exact ⟨trivial, fun _ => nofun⟩
 case dead =>
  split at h <;> try cases h
  refine ⟨by simp [HP.enc, renO], fun hl => ?_⟩
  cases hl
 case map k v =>
  split at h <;> try cases h
  split at h <;> try cases h
  rename_i m hk
  obtain ⟨k', v', es⟩ := m
  simp only at hk
  obtain ⟨rfl, rfl⟩ := hk
  exact ⟨rfl, fun _ => nofun⟩
 case loop n ps =>
  split at h <;> try cases h
  split at h <;> try cases h
  rename_i hn
  subst hn
  simp only [HP.enc, renO]
  rw [← CPL.dec_eq nid ps h]
  exact ⟨rfl, fun _ => nofun⟩
abbrev HPL.Ty : List HP → Type
 | [] => Unit
 | p :: ps => p.Ty × HPL.Ty ps
def HPL.enc : (ps : List HP) → HPL.Ty ps → List AObj
 | [], _ => []
 | p :: ps, t => p.enc t.1 :: HPL.enc ps t.2
def HPL.dec (ids : List Nat) (h : List AObj) : (ps : List HP) → List Nat → Option (HPL.Ty ps)
 | [], l => match l with | [] => some () | _ => none
 | p :: ps, l => match l with
  | i :: is => match p.dec ids (hget h i), HPL.dec ids h ps is with
   | some y, some ys => some (y, ys)
   | _, _ => none
  | [] => none
def HPL.ids (h : List AObj) : List HP → Nat → List Nat → List Nat
 | p :: ps, j, acc => HPL.ids h ps (j + 1) (match acc[j]? with | some i => p.ids (hget h i) acc | none => acc)
 | [], _, acc => acc
theorem HPL.dec_eq {ids : List Nat} {h : List AObj} (nid : Nat) : ∀ (ps : List HP) {l : List Nat} {t : HPL.Ty ps}, HPL.dec ids h ps l = some t → (HPL.enc ps t).length = l.length ∧ ∀ (k i : Nat), l[k]? = some i → ∃ o : AObj, (HPL.enc ps t)[k]? = some o ∧ hget h i = renO (sig ids nid) o ∧ (ps.all HP.live = true → hget h i ≠ .dead)
 | [], l, t, hd => by
  simp only [HPL.dec] at hd
  split at hd
  · exact ⟨rfl, fun k i h => by simp at h⟩
  · cases hd
 | p :: ps, l, t, hd => by
  simp only [HPL.dec] at hd
  split at hd
  · split at hd
    · rename_i y ys hy hys
      injection hd with hd
      subst hd
      obtain ⟨h1, h2⟩ := HPL.dec_eq nid ps hys
      refine ⟨by simp [HPL.enc, h1], fun k i hk => ?_⟩
      cases k with
      | zero =>
       simp at hk; subst hk
       obtain ⟨q1, q2⟩ := HP.dec_eq nid p hy
       exact ⟨p.enc y, rfl, q1, fun hl => q2 (by simp only [List.all_cons, Bool.and_eq_true] at hl; exact hl.1)⟩
      | succ k =>
       obtain ⟨o, q1, q2, q3⟩ := h2 k i (by simpa using hk)
       exact ⟨o, by simpa [HPL.enc] using q1, q2, fun hl => q3 (by simp only [List.all_cons, Bool.and_eq_true] at hl; exact hl.2)⟩
    · cases hd
  · cases hd

def meet (tps : List TP) (hps : List HP) (args : List AV) (h : List AObj) : List Nat := HPL.ids h hps 0 (TPL.ids tps args [])
def factK (tps : List TP) (hps : List HP) (keep : Bool) (res : TPL.Ty tps → HPL.Ty hps → AV) (outs : TPL.Ty tps → HPL.Ty hps → List AObj) (pre : TPL.Ty tps → HPL.Ty hps → List Prop) (args : List AV) (h : List AObj) (nid : Nat) : Option Out :=
 let ids := meet tps hps args h
 if okIds ids nid && (!keep || hps.all HP.live) then match TPL.dec ids tps args, HPL.dec ids h hps ids with
  | some t, some u => some (ren (sig ids nid) (res t u), if keep then [] else effsOf (sig ids nid) 0 (outs t u), pre t u)
  | _, _ => none
 else none
noncomputable def factOf {P : Program} (f : FuncId) (fn : Func) {c : Code} (hf : P.funcs[f]? = some fn) (hb : fn.body = some c) (hname : (fn.name == "runtime.NumGoroutine") = false) (tps : List TP) (hps : List HP) (keep : Bool)
  (res : TPL.Ty tps → HPL.Ty hps → AV) (outs : TPL.Ty tps → HPL.Ty hps → List AObj) (pre : TPL.Ty tps → HPL.Ty hps → List Prop)
  (hk : keep = true → ∀ t u, outs t u = HPL.enc hps u)
  (hin : ∀ t u, okIn hps.length (TPL.enc tps t) (HPL.enc hps u) = true) (hout : ∀ t u, okOut hps.length (res t u) (outs t u) = true)
  (tr : ∀ t u, (∀ p ∈ pre t u, p) → Tr P hps.length c (fnBegins fn (TPL.enc tps t) (HPL.enc hps u)) (fnEnds P fn (res t u) (outs t u))) : Fact P where
 f := f
 K := factK tps hps keep res outs pre
 ent := ent_of hf hb hname
 ok := fun args h nid x effs need hkk hn => by
  unfold factK at hkk
  simp only at hkk
  generalize meet tps hps args h = ids at hkk
  split at hkk
  case isFalse => cases hkk
  rename_i hids
  rw [Bool.and_eq_true] at hids
  obtain ⟨hids, hlv⟩ := hids
  split at hkk
  case h_2 => cases hkk
  rename_i t u ht hu
  simp only [Option.some.injEq, Prod.mk.injEq] at hkk
  obtain ⟨rfl, rfl, rfl⟩ := hkk
  obtain ⟨hl, ho⟩ := HPL.dec_eq nid hps hu
  have hlen : hps.length = ids.length := by
   have : ∀ (ps : List HP) (u : HPL.Ty ps), (HPL.enc ps u).length = ps.length := by
    intro ps
    induction ps with
    | nil => intro u; rfl
    | cons p ps ih => intro u; simp [HPL.enc, ih]
   rw [← this hps u, hl]
  have htr := tr t u hn
  have hi := hin t u
  have hq := hout t u
  rw [hlen] at htr hi hq
  have hobj : ∀ k o, (HPL.enc hps u)[k]? = some o → hget h (sig ids nid k) = renO (sig ids nid) o := by
   intro k o hko
   have hlt : k < ids.length := by rw [← hl]; exact (List.getElem?_eq_some_iff.1 hko).1
   obtain ⟨o', h1, h2, _⟩ := ho k ids[k] (List.getElem?_eq_getElem hlt)
   rw [hko] at h1
   injection h1 with h1
   subst h1
   rw [sig_at (List.getElem?_eq_getElem hlt)]
   exact h2
  have hs := sound_of_Tr hf hb (ids := ids) (hr := h) (nid := nid) htr hi hq hids hobj
  rw [← TPL.dec_eq nid tps ht] at hs
  cases keep with
  | false => exact hs
  | true =>
   simp only [if_true]
   refine KSound.drop hs fun e he => ?_
   rw [hk rfl] at he
   have key : ∀ (os : List AObj) (k : Nat), e ∈ effsOf (sig ids nid) k os → ∃ j o, os[j]? = some o ∧ e = (sig ids nid (k + j), renO (sig ids nid) o) := by
    intro os
    induction os with
    | nil => intro k h; simp [effsOf] at h
    | cons o os ih =>
     intro k h
     simp only [effsOf, List.mem_cons] at h
     rcases h with h | h
     · exact ⟨0, o, rfl, h⟩
     · obtain ⟨j, o', h1, h2⟩ := ih (k + 1) h
       exact ⟨j + 1, o', by simpa using h1, by rw [h2]; congr 2; omega⟩
   obtain ⟨j, o, h1, rfl⟩ := key _ 0 he
   have hlt : j < ids.length := by rw [← hl]; exact (List.getElem?_eq_some_iff.1 h1).1
   obtain ⟨o', q1, q2, q3⟩ := ho j ids[j] (List.getElem?_eq_getElem hlt)
   rw [h1] at q1
   injection q1 with q1
   subst q1
   simp only [Nat.zero_add]
   rw [sig_at (List.getElem?_eq_getElem hlt)]
   refine ⟨q2, by rw [← q2]; exact q3 (by simpa using hlv), ?_⟩
   simp only [okIds, Bool.and_eq_true, List.all_eq_true, decide_eq_true_eq] at hids
   exact hids.2 _ (List.getElem_mem hlt)
end Go.Eng
end
section
namespace Go.Eng
theorem need_nil : ∀ q ∈ ([] : List Prop), q := nofun
theorem need_cons {p : Prop} {ps : List Prop} (h : p) (k : ∀ q ∈ ps, q) : ∀ q ∈ p :: ps, q := fun q hq => by
 rcases List.mem_cons.1 hq with rfl | hq
 · exact h
 · exact k q hq
theorem drop_getD {α : Type} [Inhabited α] {l : List α} {i : Nat} (h : i < l.length) : l.drop i = l.getD i default :: l.drop (i + 1) := by
 rw [List.getD_eq_getElem?_getD, List.getElem?_eq_getElem h, List.drop_eq_getElem_cons h]
 rfl
theorem byteSize_lit (l : List UInt8) : (⟨⟨l⟩⟩ : ByteArray).size = l.length := rfl
def XObj.Fine (o : XObj) : Prop := o.name.size ≤ 140737488351232 ∧ 0 ≤ o.born ∧ o.born ≤ 18446744073709551615 ∧ o.cls.size ≤ 140737488351232 ∧ o.zone.size ≤ 140737488351232 ∧ o.node.size ≤ 140737488351232 ∧ o.claim.size ≤ 140737488351232 ∧ o.volume.size ≤ 140737488351232 ∧ o.source.size ≤ 140737488351232
instance (o : XObj) : Decidable o.Fine := by unfold XObj.Fine; exact inferInstance
end Go.Eng
end
section
namespace Go.Eng
open Go.RowKit (Below)

theorem Keeps.of_below {B : Nat → Prop} {w w' : World} (h : Below w.heap.size w w') (hB : ∀ b, B b → b < w.heap.size) : Keeps B w w' := ⟨h.os, h.tape, h.output, h.size, fun k hk => h.block k (hB k hk)⟩
theorem SimH.call {B : Nat → Prop} {w0 w w' : World} {M0 M : Mem} {h : List AObj} {ρ : Loc} (H : SimH B w0 M0 h w ρ M) (hb : Below w.heap.size w w') : SimH B w0 M0 h w' ρ M :=
 H.world (Mem.le_refl _) (fun i r _ hr => ⟨hb.block r (H.own r i hr).2, fun _ h => h⟩) (fun b o v hv => by
  have hc := H.mem b o v hv
  have hlt := World.block_lt_of_cell? w _ hc
  rw [← hc]
  unfold World.cell?
  rw [hb.block b hlt]) (fun _ _ _ => rfl) (Keeps.of_below hb H.size)
theorem SimH.globs {B : Nat → Prop} {w0 w : World} {M0 M : Mem} {h : List AObj} {ρ : Loc} (H : SimH B w0 M0 h w ρ M) : Globs.G w := H.good w H.below.block
theorem KSound.of_below {P : Program} {f : FuncId} {args : List AV} {x : AV}
  (hc : ∀ (w : World) (vs : List Value) (ρ : Loc) (M : Mem), Globs.G w → repL ρ M noG args vs → Calls P f ⟨vs⟩ w fun e w' => ∃ v, e = .returned v ∧ (∀ ρ M, rep ρ M noG x v) ∧ Below w.heap.size w w') (hr : List AObj) (nid : Nat) : KSound P f args hr nid x [] := by
 intro B w0 M0 h w ρ M vs H _ _ hargs
 refine (hc w vs ρ M H.globs hargs).mono ?_
 rintro e w' ⟨v, rfl, hv, hb⟩
 exact ⟨v, ρ, M, rfl, ⟨Loc.le_refl _, fun _ _ => rfl⟩, Mem.le_refl _, H.call hb, hv _ _⟩
noncomputable def factBelow {P : Program} (f : FuncId) (fn : Func) {c : Code} (hf : P.funcs[f]? = some fn) (hb : fn.body = some c) (hname : (fn.name == "runtime.NumGoroutine") = false) (tps : List TP)
  (res : TPL.Ty tps → AV) (pre : TPL.Ty tps → List Prop) (ha : ∀ σ t, renL σ (TPL.enc tps t) = TPL.enc tps t) (hx : ∀ σ t, ren σ (res t) = res t)
  (hc : ∀ t, (∀ p ∈ pre t, p) → ∀ (w : World) (vs : List Value) (ρ : Loc) (M : Mem), Globs.G w → repL ρ M noG (TPL.enc tps t) vs → Calls P f ⟨vs⟩ w fun e w' => ∃ v, e = .returned v ∧ (∀ ρ M, rep ρ M noG (res t) v) ∧ Below w.heap.size w w') : Fact P where
 f := f
 K := factK tps [] true (fun t _ => res t) (fun _ _ => []) (fun t _ => pre t)
 ent := ent_of hf hb hname
 ok := fun args h nid x effs need hkk hn => by
  unfold factK at hkk
  simp only at hkk
  generalize meet tps [] args h = ids at hkk
  split at hkk
  case isFalse => cases hkk
  split at hkk
  case h_2 => cases hkk
  rename_i t u ht hu
  simp only [Option.some.injEq, Prod.mk.injEq, if_true] at hkk
  obtain ⟨rfl, rfl, rfl⟩ := hkk
  have he := TPL.dec_eq nid tps ht
  rw [ha] at he
  rw [he, hx]
  exact KSound.of_below (hc t hn) h nid
theorem cond_t {α : Type} {b : Bool} (h : b = true) {x y z : α} (k : x = z) : cond b x y = z := by rw [h]; exact k
theorem cond_f {α : Type} {b : Bool} (h : b = false) {x y z : α} (k : y = z) : cond b x y = z := by rw [h]; exact k
end Go.Eng
namespace Go.Eng
end Go.Eng
namespace Go.Eng
def XLabel.Fine (x : XLabel) : Prop := x.key.size < 4611686018427387904 ∧ x.value.size < 4611686018427387904
def XTerm.Fine (x : XTerm) : Prop := x.key.size < 4611686018427387904 ∧ x.values.length < 4611686018427387904 ∧ ∀ v ∈ x.values, v.size < 4611686018427387904
end Go.Eng
end
section
namespace Go.Eng
open Go.RowKit (Below)

end Go.Eng
end
section
namespace Go.Eng
open Go.RowKit (Below)

end Go.Eng
end
section
namespace Go.Eng
open Go.RowKit (Below)
section
variable {B : Nat → Prop} {w0 w : World} {M0 M : Mem} {h : List AObj} {ρ : Loc}
theorem repL_pre {p : List AV} {nid : Nat} : ∀ {us : List Value} {u : Value}, scL p us → rep ρ M noG (.vec nid) u → repL ρ M noG (p ++ [.vec nid]) (us ++ [u]) := by
 induction p with
 | nil =>
  intro us u h hu
  match us, h with
  | [], _ => simp only [List.nil_append, repL, and_true]; exact hu
  | _ :: _, h => exact h.elim
 | cons x p ih =>
  intro us u h hu
  match us, h with
  | v :: us, h =>
   simp only [List.cons_append, repL]
   refine ⟨?_, ih h.2 hu⟩
   have h3 := h.1
   cases x <;> simp only [sc] at h3 <;> simpa only [rep] using h3
  | [], h => exact h.elim
theorem SimH.unfold (H : SimH B w0 M0 h w ρ M) {ib nid : Nat} {t : TypeId} {p : List AV} {f : Bool} {c : Coll} (hb : hget h ib = .var t p f c) (hid : h.length ≤ nid) :
  ∃ ρ', ρ.le ρ' ∧ SimH B w0 M0 (hset (hset h ib (.cells t (p ++ [.vec nid]))) nid (.vec f c)) w ρ' M := by
 have hlb : ib < h.length := hget_lt (by rw [hb]; simp)
 have hnid := H.fresh nid hid
 have ob := H.obj ib
 rw [hb] at ob
 obtain ⟨r, us, hh, g1, g2, g3, g4, hsl, g5, g6⟩ := ob
 have hle : ρ.le ⟨fun i => if i = nid then some (.hdr hh) else ρ i, fun b => if ρ.own b = some ib ∧ b ≠ r then some nid else ρ.own b⟩ := fun i x hx => by
  simp only
  split
  · rename_i e; subst e; rw [hnid] at hx; cases hx
  · exact hx
 refine ⟨_, hle, ⟨fun i => ?_, fun i hi => ?_, fun b i hi => ?_, H.mem, H.old, H.below, H.size, H.good⟩⟩
 · rw [hget_hset]
   by_cases e : nid = i
   · subst e
     rw [if_pos rfl]
     refine ⟨hh, by simp, ?_⟩
     rcases g5 with g5 | ⟨r', cap, vs, t', p1, p2, p3⟩
     · exact .inl g5
     · refine .inr ⟨r', cap, vs, t', p1, ?_, p3⟩
       simp only
       rw [if_pos ⟨p2, g6 r' _ _ p1⟩]
   · rw [if_neg e, hget_hset]
     by_cases e2 : ib = i
     · subst e2
       rw [if_pos rfl]
       refine ⟨r, us ++ [hh], hle _ _ g1, ?_, g3, repL_pre hsl ?_, g4⟩
       · simp only
         rw [if_neg (fun h => h.2 rfl)]
         exact g2
       · simp only [rep]
         refine ⟨?_, by simp⟩
         rcases g5 with ⟨g5, _⟩ | ⟨r', cap, vs, t', p1, _⟩
         · exact ⟨_, _, _, g5⟩
         · exact ⟨_, _, _, p1⟩
     · rw [if_neg e2]
       refine (H.obj i).keep hle (Mem.le_refl _) fun b hb => ⟨?_, rfl, fun _ h => h⟩
       simp only
       rw [if_neg (by rw [hb]; rintro ⟨e, _⟩; injection e with e; exact e2 e.symm)]
       exact hb
 · rw [length_hset, length_hset] at hi
   show (if i = nid then some (RL.hdr hh) else ρ i) = none
   rw [if_neg (by omega)]
   exact H.fresh i (by omega)
 · simp only at hi
   split at hi
   · rename_i he
     exact H.own b ib he.1
   · exact H.own b i hi
theorem SimH.move (H : SimH B w0 M0 h w ρ M) {iv nid : Nat} {f : Bool} {c : Coll} (hv : hget h iv = .vec f c) (hid : h.length ≤ nid) :
  ∃ ρ', ρ.le ρ' ∧ ρ' nid = ρ iv ∧ SimH B w0 M0 (hset (hset h iv .dead) nid (.vec f c)) w ρ' M := by
 have hlv : iv < h.length := hget_lt (by rw [hv]; simp)
 have hnid := H.fresh nid hid
 have ov := H.obj iv
 rw [hv] at ov
 obtain ⟨hh, k1, k2⟩ := ov
 have hle : ρ.le ⟨fun i => if i = nid then some (.hdr hh) else ρ i, fun b => if ρ.own b = some iv then some nid else ρ.own b⟩ := fun i x hx => by
  simp only
  split
  · rename_i e; subst e; rw [hnid] at hx; cases hx
  · exact hx
 refine ⟨_, hle, by simp [k1], ⟨fun i => ?_, fun i hi => ?_, fun b i hi => ?_, H.mem, H.old, H.below, H.size, H.good⟩⟩
 · rw [hget_hset]
   by_cases e : nid = i
   · subst e
     rw [if_pos rfl]
     refine ⟨hh, by simp, ?_⟩
     rcases k2 with k2 | ⟨r', cap, vs, t', p1, p2, p3⟩
     · exact .inl k2
     · refine .inr ⟨r', cap, vs, t', p1, ?_, p3⟩
       simp only
       rw [if_pos p2]
   · rw [if_neg e, hget_hset]
     by_cases e2 : iv = i
     · rw [if_pos e2]; trivial
     · rw [if_neg e2]
       refine (H.obj i).keep hle (Mem.le_refl _) fun b hb => ⟨?_, rfl, fun _ h => h⟩
       simp only
       rw [if_neg (by rw [hb]; intro e; injection e with e; exact e2 e.symm)]
       exact hb
 · rw [length_hset, length_hset] at hi
   show (if i = nid then some (RL.hdr hh) else ρ i) = none
   rw [if_neg (by omega)]
   exact H.fresh i (by omega)
 · simp only at hi
   split at hi
   · rename_i he
     exact H.own b iv he
   · exact H.own b i hi
end
def mvA (iv nid : Nat) : AV → AV
 | .vec j => if j = iv then .vec nid else .vec j
 | x => x
def Turn (k : Nat) (s s' : St) : Prop := ∀ (D : List Deferred) (B : Nat → Prop) (w0 : World) (M0 : Mem) (a : Act) (w : World) (ρ : Loc) (M : Mem), Sim D B w0 M0 s a w ρ M → ∃ ρ' M', kept k ρ ρ' ∧ M.le M' ∧ Sim D B w0 M0 s' a w ρ' M'
theorem Turn.refl (k : Nat) (s : St) : Turn k s s := fun _ _ _ _ _ _ ρ M H => ⟨ρ, M, kept.refl _ _, Mem.le_refl _, H⟩
theorem Turn.trans {k : Nat} {a b c : St} (h : Turn k a b) (g : Turn k b c) : Turn k a c := fun D B w0 M0 x w ρ M H =>
 let ⟨ρ1, M1, l1, m1, H1⟩ := h D B w0 M0 x w ρ M H
 let ⟨ρ2, M2, l2, m2, H2⟩ := g D B w0 M0 x w ρ1 M1 H1
 ⟨ρ2, M2, l1.trans l2, Mem.le_trans m1 m2, H2⟩
theorem SimT.le {D : List Deferred} {ρ ρ' : Loc} {M : Mem} {t : List AV} {a : Act} (T : SimT D ρ M noG t a) (hρ : ρ.le ρ') : SimT D ρ' M noG t a := ⟨T.len, T.defers, fun i => repS_mono hρ (Mem.le_refl _) (T.at_ i)⟩
theorem Turn.unfold {k : Nat} {t0 : List AV} {h : List AObj} (ib nid : Nat) {t : TypeId} {p : List AV} {f : Bool} {c : Coll} (hb : hget h ib = .var t p f c) (hid : h.length ≤ nid) : Turn k ⟨t0, h⟩ ⟨t0, hset (hset h ib (.cells t (p ++ [.vec nid]))) nid (.vec f c)⟩ :=
 fun D B w0 M0 a w ρ M H => by
  obtain ⟨ρ', h1, h2⟩ := H.h.unfold hb hid
  exact ⟨ρ', M, kept.of_le h1, Mem.le_refl _, h2, H.t.le h1⟩
theorem Turn.move {k : Nat} {t0 : List AV} {h : List AObj} (iv nid : Nat) {f : Bool} {c : Coll} (hv : hget h iv = .vec f c) (hid : h.length ≤ nid) : Turn k ⟨t0, h⟩ ⟨t0.map (mvA iv nid), hset (hset h iv .dead) nid (.vec f c)⟩ :=
 fun D B w0 M0 a w ρ M H => by
  obtain ⟨ρ', h1, h2, h3⟩ := H.h.move hv hid
  refine ⟨ρ', M, kept.of_le h1, Mem.le_refl _, h3, ⟨by rw [List.length_map]; exact H.t.len, H.t.defers, fun i => ?_⟩⟩
  rw [map_getD _ rfl]
  have := repS_mono h1 (Mem.le_refl M) (H.t.at_ i)
  cases hx : t0.getD i .unk <;> rw [hx] at this <;> try exact this
  rename_i j
  show repS ρ' M noG (if j = iv then .vec nid else .vec j) _
  by_cases e : j = iv
  · rw [if_pos e]
    subst e
    have h4 := H.t.at_ i
    rw [hx] at h4
    have h5 : rep ρ M noG (.vec j) (a.tmps.getD i undef) := h4
    have h6 : rep ρ' M noG (.vec nid) (a.tmps.getD i undef) := by
     simp only [rep] at h5 ⊢
     exact ⟨h5.1, by rw [h2]; exact h5.2⟩
    exact h6
  · rw [if_neg e]
    exact this
theorem Turn.fits {k : Nat} {s p : St} (σ : List Nat) (hp : pull σ p s = push σ p) (hw : p.wf = true) (hk : Nat.ble k p.h.length = true) (hs : okSg k p.h.length σ = true) : Turn k s p :=
 fun _ _ _ _ _ _ ρ M H => ⟨_, M, kept.ren (by simpa using hk) hs ρ, Mem.le_refl _, H.fits hp hw hs⟩
theorem Turn.frz {k : Nat} {t0 : List AV} {h : List AObj} (iv : Nat) {c : Coll} (hv : hget h iv = .vec false c) : Turn k ⟨t0, h⟩ ⟨t0, hset h iv (.vec true c)⟩ :=
 fun D B w0 M0 a w ρ M H => by
  obtain ⟨M1, l1, H1, _⟩ := freezeR [.vec iv] H.h (fun _ _ => rfl)
  have e : applyEff h (frzOf h [.vec iv]) = hset h iv (.vec true c) := by simp [frzOf, hv, applyEff]
  rw [e] at H1
  exact ⟨ρ, M1, kept.refl _ _, l1, H1, ⟨H.t.len, H.t.defers, fun i => repS_mono (Loc.le_refl _) l1 (H.t.at_ i)⟩⟩
theorem Tr.pre {P : Program} {k : Nat} {c : Code} {s s' : St} {Q : Exit → St → Prop} (ht : Turn k s s') (h : Tr P k c s' Q) : Tr P k c s Q := fun ro D B w0 M0 a w ρ M hro H => by
 obtain ⟨ρ', M', h1, m1, H'⟩ := ht D B w0 M0 a w ρ M H
 exact wpIn_mono (h ro D B w0 M0 a w ρ' M' hro H') fun _ _ _ hp => TrPost.then (CtxLe.refl _ _ _ _) h1 m1 hp
theorem Tr.post {P : Program} {k : Nat} {c : Code} {s : St} {Q : Exit → St → Prop} (h : Tr P k c s (fun e s => ∃ s', Turn k s s' ∧ Q e s')) : Tr P k c s Q := fun ro D B w0 M0 a w ρ M hro H =>
 wpIn_mono (h ro D B w0 M0 a w ρ M hro H) fun _ _ _ ⟨s', ρ', M', D', B', w0', M0', h0, ⟨s2, ht, hq2⟩, h2, h3, h4⟩ => by
  obtain ⟨ρ2, M2, l2, m2, H2⟩ := ht D' B' w0' M0' _ _ ρ' M' h4
  exact ⟨s2, ρ2, M2, D', B', w0', M0', h0, hq2, h2.trans l2, Mem.le_trans h3 m2, H2⟩
end Go.Eng
end
section
namespace Go.Eng
open Go.RowKit (Below)

def Mem.row (M : Mem) (b : Nat) (l : List Value) : Mem := fun b' o => if b' = b ∧ o < l.length then l[o]? else M b' o
end Go.Eng
end
section
namespace Go.Eng
open Go.RowKit (Below)
section
variable {B : Nat → Prop} {w0 w : World} {M0 M : Mem} {h : List AObj} {ρ : Loc}
end
theorem repL_setVec {ρ ρ' : Loc} {M : Mem} {iv nid : Nat} (hle : ρ.le ρ') (hn : ρ' nid = ρ iv) : ∀ {cs : List AV} {vs : List Value} {off : Nat}, repL ρ M noG cs vs → cs[off]? = some (.vec iv) → repL ρ' M noG (cs.set off (.vec nid)) vs
 | [], _, _, _, ho => by simp at ho
 | _ :: _, [], _, h, _ => by simp [repL] at h
 | x :: cs, v :: vs, 0, h, ho => by
  simp only [repL] at h
  simp only [List.getElem?_cons_zero, Option.some.injEq] at ho
  subst ho
  simp only [List.set_cons_zero, repL]
  have h1 := h.1
  rw [rep] at h1
  exact ⟨by rw [rep]; exact ⟨h1.1, by rw [hn]; exact h1.2⟩, repL_mono hle (Mem.le_refl _) (fun _ _ h => h) _ _ h.2⟩
 | x :: cs, v :: vs, off + 1, h, ho => by
  simp only [repL] at h
  simp only [List.set_cons_succ, repL]
  exact ⟨rep_mono hle (Mem.le_refl _) (fun _ _ h => h) _ _ h.1, repL_setVec hle hn h.2 (by simpa using ho)⟩
theorem Turn.moveC {k : Nat} {t0 : List AV} {h : List AObj} (ib off iv nid : Nat) {t : TypeId} {cs : List AV} {f : Bool} {c : Coll} (hb : hget h ib = .cells t cs) (ho : cs[off]? = some (.vec iv)) (hv : hget h iv = .vec f c) (hid : h.length ≤ nid) :
  Turn k ⟨t0, h⟩ ⟨t0, hset (hset (hset h iv .dead) nid (.vec f c)) ib (.cells t (cs.set off (.vec nid)))⟩ :=
 fun D B w0 M0 a w ρ M H => by
  have hne : iv ≠ ib := by rintro rfl; rw [hb] at hv; cases hv
  have hlb : ib < h.length := hget_lt (by rw [hb]; simp)
  have hnb : nid ≠ ib := by omega
  have ob := H.h.obj ib
  rw [hb] at ob
  obtain ⟨r, vs, g1, g2, g3, g4, g5⟩ := ob
  obtain ⟨ρ', h1, h2, h3⟩ := H.h.move hv hid
  have ob' := h3.obj ib
  rw [hget_hset, if_neg hnb, hget_hset, if_neg hne, hb] at ob'
  obtain ⟨r', vs', k1, k2, k3, k4, k5⟩ := ob'
  rw [h1 _ _ g1] at k1
  injection k1 with k1; injection k1 with k1
  subst k1
  rw [g3] at k3
  injection k3 with k3; injection k3 with k3
  have k3 : vs = vs' := by injection k3
  subst k3
  refine ⟨ρ', M, kept.of_le h1, Mem.le_refl _, ?_, H.t.le h1⟩
  exact h3.update ib _ (fun _ _ => rfl) (Loc.le_refl _) (Mem.le_refl _) ⟨r, vs, h1 _ _ g1, k2, g3, repL_setVec h1 h2 g4 ho, k5⟩ (fun _ _ _ _ hr => ⟨hr, rfl, fun _ h => h⟩) (fun r i hr => h3.own r i hr) h3.mem (fun _ _ _ => rfl) (Keeps.refl _ _)
abbrev LEntry := Nat × List (Nat × Bool) × St × List Nat × Tree
def SelOk (P : Program) (k : Nat) (l : List (Nat × Code)) : List LEntry → Prop
 | [] => True
 | e :: r => (e.2.2.1.wf = true ∧ Nat.ble k e.2.2.1.h.length = true ∧ okSg k e.2.2.1.h.length e.2.2.2.1 = true ∧ ∃ g, l.lookup e.1 = some (.loop g) ∧ ∀ Q, e.2.2.2.2.All Q → Tr P k (.loop g) e.2.2.1 Q) ∧ SelOk P k l r
theorem SelOk.mem {P : Program} {k : Nat} {l : List (Nat × Code)} : ∀ {es : List LEntry}, SelOk P k l es → ∀ e ∈ es, e.2.2.1.wf = true ∧ Nat.ble k e.2.2.1.h.length = true ∧ okSg k e.2.2.1.h.length e.2.2.2.1 = true ∧ ∃ g, l.lookup e.1 = some (.loop g) ∧ ∀ Q, e.2.2.2.2.All Q → Tr P k (.loop g) e.2.2.1 Q
 | [], _, e, he => by cases he
 | e :: es, h, e', he => by
  rcases List.mem_cons.1 he with rfl | he
  · exact h.1
  · exact SelOk.mem h.2 e' he
theorem applyEff_congr : ∀ (effs : Eff) {h1 h2 : List AObj}, (∀ id, hget h1 id = hget h2 id) → ∀ id, hget (applyEff h1 effs) id = hget (applyEff h2 effs) id
 | [], _, _, h => h
 | e :: effs, h1, h2, h => by
  simp only [applyEff, List.foldl_cons]
  exact applyEff_congr effs (fun id => by rw [hget_hset, hget_hset, h id])
theorem applyEff_filter (p : Nat × AObj → Bool) : ∀ (effs : Eff) {h : List AObj}, (∀ e ∈ effs, p e = false → hget h e.1 = e.2 ∧ ∀ e' ∈ effs, p e' = true → e'.1 ≠ e.1) → ∀ id, hget (applyEff h effs) id = hget (applyEff h (effs.filter p)) id
 | [], _, _ => fun _ => rfl
 | e :: effs, h, hq => by
  intro id
  cases hp : p e with
  | true =>
   rw [List.filter_cons_of_pos hp]
   simp only [applyEff, List.foldl_cons]
   refine applyEff_filter p effs (fun e1 h1 hp1 => ?_) id
   obtain ⟨g1, g2⟩ := hq e1 (List.mem_cons_of_mem _ h1) hp1
   refine ⟨?_, fun e' he' => g2 e' (List.mem_cons_of_mem _ he')⟩
   rw [hget_hset, if_neg (g2 e List.mem_cons_self hp)]
   exact g1
  | false =>
   rw [List.filter_cons_of_neg (by simp [hp])]
   have hg := (hq e List.mem_cons_self hp).1
   have hs : ∀ id, hget (hset h e.1 e.2) id = hget h id := fun id => by
    rw [hget_hset]
    split
    · rename_i e1; rw [← e1]; exact hg.symm
    · rfl
   have := applyEff_congr effs hs id
   simp only [applyEff, List.foldl_cons] at this ⊢
   rw [this]
   exact applyEff_filter p effs (fun e1 h1 hp1 => ⟨(hq e1 (List.mem_cons_of_mem _ h1) hp1).1, fun e' he' => (hq e1 (List.mem_cons_of_mem _ h1) hp1).2 e' (List.mem_cons_of_mem _ he')⟩) id
theorem KSound.thin {P : Program} {f : FuncId} {args : List AV} {hr : List AObj} {nid : Nat} {x : AV} {effs : Eff} (h : KSound P f args hr nid x effs) (p : Nat × AObj → Bool)
  (hs : ∀ e ∈ effs, p e = false → hget hr e.1 = e.2 ∧ e.2 ≠ .dead ∧ e.1 < nid ∧ ∀ e' ∈ effs, p e' = true → e'.1 ≠ e.1) : KSound P f args hr nid x (effs.filter p) := by
 intro B w0 M0 hh w ρ M vs H hle hfr hargs
 have hid : ∀ e ∈ effs, p e = false → hget hh e.1 = e.2 ∧ ∃ r, ρ e.1 = some r := by
  intro e he hp
  obtain ⟨h1, h2, h3, _⟩ := hs e he hp
  have h4 : hget hh e.1 = e.2 := (hle e.1 (by rw [h1]; exact h2)).trans h1
  refine ⟨h4, ?_⟩
  have := H.obj e.1
  rw [h4] at this
  generalize e.2 = o at this h2
  cases o with
  | dead => exact absurd rfl h2
  | cells t cs => obtain ⟨r, _, h1, _⟩ := this; exact ⟨_, h1⟩
  | vec f c => obtain ⟨r, h1, _⟩ := this; exact ⟨_, h1⟩
  | map m => obtain ⟨r, _, _, h1, _⟩ := this; exact ⟨_, h1⟩
  | iter s pos => obtain ⟨r, h1, _⟩ := this; exact ⟨_, h1⟩
  | loop site t pd => obtain ⟨r, _, h1, _⟩ := this; exact ⟨_, h1⟩
  | var t p f c => obtain ⟨r, _, _, h1, _⟩ := this; exact ⟨_, h1⟩
  | vols es al => obtain ⟨r, _, _, _, h1, _⟩ := this; exact ⟨_, h1⟩
 refine (h B w0 M0 hh w ρ M vs H hle (fun q hq hn => ?_) hargs).mono ?_
 · cases hp : p q with
   | true => exact hfr q (List.mem_filter.2 ⟨hq, hp⟩) hn
   | false => exact absurd (hs q hq hp).2.2.1 (by omega)
 rintro e w' ⟨v, ρ', M', he, h1, h2, h3, h4⟩
 have key : ∀ id, (∀ e ∈ effs.filter p, e.1 ≠ id) → ρ' id = ρ id := by
  intro id hne
  by_cases hc : ∃ e ∈ effs, e.1 = id
  · obtain ⟨e, he, rfl⟩ := hc
    have hp : p e = false := by
     cases hp : p e with
     | false => rfl
     | true => exact absurd rfl (hne e (List.mem_filter.2 ⟨he, hp⟩))
    obtain ⟨_, r, hr⟩ := hid e he hp
    rw [hr]
    exact h1.1 _ _ hr
  · exact h1.2 id fun e he hh => hc ⟨e, he, hh⟩
 refine ⟨v, ρ', M', he, ⟨h1.1, key⟩, h2, ?_, h4⟩
 have hfe := applyEff_filter p effs (h := hh) fun e he hp => ⟨(hid e he hp).1, (hs e he hp).2.2.2⟩
 refine SimH.congr h3 (fun id => (hfe id).symm) fun id hl => ?_
 by_cases hc : ∃ e ∈ effs.filter p, e.1 = id
 · obtain ⟨e, he, rfl⟩ := hc
   exfalso
   have hlen : ∀ (effs : Eff) (h : List AObj) (e : Nat × AObj), e ∈ effs → e.1 < (applyEff h effs).length := by
    intro effs
    induction effs with
    | nil => intro h e he; cases he
    | cons e0 effs ih =>
     intro h e he
     simp only [applyEff, List.foldl_cons]
     rcases List.mem_cons.1 he with rfl | he
     · have mono : ∀ (effs : Eff) (h : List AObj), h.length ≤ (applyEff h effs).length := by
         intro effs
         induction effs with
         | nil => intro h; exact Nat.le_refl _
         | cons e0 effs ih =>
          intro h
          simp only [applyEff, List.foldl_cons]
          refine Nat.le_trans ?_ (ih _)
          rw [length_hset]; omega
       refine Nat.lt_of_lt_of_le ?_ (mono effs (hset h e.1 e.2))
       rw [length_hset]; omega
     · exact ih _ e he
   have := hlen _ hh e he
   omega
 · rw [key id fun e he hh => hc ⟨e, he, hh⟩]
   refine H.fresh id ?_
   have mono : ∀ (effs : Eff) (h : List AObj), h.length ≤ (applyEff h effs).length := by
    intro effs
    induction effs with
    | nil => intro h; exact Nat.le_refl _
    | cons e0 effs ih =>
     intro h
     simp only [applyEff, List.foldl_cons]
     refine Nat.le_trans ?_ (ih _)
     rw [length_hset]; omega
   exact Nat.le_trans (mono _ hh) hl
theorem sig_inj {ids : List Nat} {nid : Nat} (hid : okIds ids nid = true) : ∀ i j, sig ids nid i = sig ids nid j → i = j := by
 simp only [okIds, Bool.and_eq_true, decide_eq_true_eq, List.all_eq_true] at hid
 intro i j h
 unfold sig at h
 split at h <;> split at h
 · rename_i hi hj
   simp only [List.getD_eq_getElem?_getD, List.getElem?_eq_getElem hi, List.getElem?_eq_getElem hj, Option.getD_some] at h
   exact (List.getElem_inj hid.1).1 h
 · rename_i hi hj
   have := hid.2 (ids.getD i 0) (by rw [List.getD_eq_getElem?_getD, List.getElem?_eq_getElem hi]; exact List.getElem_mem hi)
   omega
 · rename_i hi hj
   have := hid.2 (ids.getD j 0) (by rw [List.getD_eq_getElem?_getD, List.getElem?_eq_getElem hj]; exact List.getElem_mem hj)
   omega
 · omega
def told (ids mask : List Nat) (e : Nat × AObj) : Bool := !(mask.any fun k => ids.getD k 0 == e.1)
theorem effsOf_ex {σ : Nat → Nat} {e : Nat × AObj} : ∀ (os : List AObj) (k : Nat), e ∈ effsOf σ k os → ∃ j o, os[j]? = some o ∧ e = (σ (k + j), renO σ o)
 | [], _, h => by simp [effsOf] at h
 | o :: os, k, h => by
  simp only [effsOf, List.mem_cons] at h
  rcases h with h | h
  · exact ⟨0, o, rfl, h⟩
  · obtain ⟨j, o', h1, h2⟩ := effsOf_ex os (k + 1) h
    exact ⟨j + 1, o', by simpa using h1, by rw [h2]; congr 2; omega⟩
theorem HPL.enc_length : ∀ (ps : List HP) (u : HPL.Ty ps), (HPL.enc ps u).length = ps.length
 | [], _ => rfl
 | _ :: ps, u => by simp [HPL.enc, HPL.enc_length ps u.2]
noncomputable def factThin {P : Program} (A : Fact P) (tps : List TP) (hps : List HP) (res : TPL.Ty tps → HPL.Ty hps → AV) (outs : TPL.Ty tps → HPL.Ty hps → List AObj) (pre : TPL.Ty tps → HPL.Ty hps → List Prop)
  (hA : A.K = factK tps hps false res outs pre) (mask : List Nat) (hm : ∀ t u, ∀ k ∈ mask, k < hps.length ∧ (outs t u)[k]? = (HPL.enc hps u)[k]?) : Fact P where
 f := A.f
 ent := A.ent
 K := fun args h nid => if hps.all HP.live then match A.K args h nid with
  | some (x, effs, need) => some (x, effs.filter (told (meet tps hps args h) mask), need)
  | none => none
  else none
 ok := fun args h nid x effs need hk hn => by
  split at hk
  case isFalse => cases hk
  rename_i hlv
  split at hk
  case h_2 => cases hk
  rename_i x' effs' need' hA'
  simp only [Option.some.injEq, Prod.mk.injEq] at hk
  obtain ⟨rfl, rfl, rfl⟩ := hk
  refine (A.ok args h nid _ _ _ hA' hn).thin _ fun e he hp => ?_
  rw [hA] at hA'
  unfold factK at hA'
  simp only at hA'
  generalize meet tps hps args h = ids at hA' hp ⊢
  split at hA'
  case isFalse => cases hA'
  rename_i hids
  rw [Bool.and_eq_true] at hids
  replace hids := hids.1
  split at hA'
  case h_2 => cases hA'
  rename_i t u ht hu
  simp only [Option.some.injEq, Prod.mk.injEq, Bool.false_eq_true, if_false] at hA'
  obtain ⟨_, rfl, _⟩ := hA'
  obtain ⟨hl, ho⟩ := HPL.dec_eq nid hps hu
  have hpe := hp
  simp only [told, Bool.not_eq_false', List.any_eq_true, beq_iff_eq] at hpe
  obtain ⟨k, hk, hke⟩ := hpe
  obtain ⟨hkl, hko⟩ := hm t u k hk
  rw [← HPL.enc_length hps u, hl] at hkl
  obtain ⟨j, o, h1, h2⟩ := effsOf_ex _ _ he
  have hsk : sig ids nid k = e.1 := by
   rw [← hke, sig_at (List.getElem?_eq_getElem hkl), List.getD_eq_getElem?_getD, List.getElem?_eq_getElem hkl]
   rfl
  have hjk : j = k := by
   have : sig ids nid j = sig ids nid k := by rw [hsk, h2, Nat.zero_add]
   exact sig_inj hids _ _ this
  subst hjk
  rw [h1] at hko
  obtain ⟨o', q1, q2, q3⟩ := ho j ids[j] (List.getElem?_eq_getElem hkl)
  rw [← hko] at q1
  injection q1 with q1
  subst q1
  have he1 : e.1 = ids[j] := by rw [← hsk]; exact sig_at (List.getElem?_eq_getElem hkl)
  have he2 : e.2 = renO (sig ids nid) o := by rw [h2]
  refine ⟨by rw [he1, he2]; exact q2, by rw [he2, ← q2]; exact q3 hlv, ?_, fun e' he' hp' hee => ?_⟩
  · rw [he1]
    simp only [okIds, Bool.and_eq_true, List.all_eq_true, decide_eq_true_eq] at hids
    exact hids.2 _ (List.getElem_mem hkl)
  · unfold told at hp hp'
    rw [hee] at hp'
    rw [hp'] at hp
    cases hp
end Go.Eng
end
