/- The engine, part 15: arguments: what is read of them is typed. -/
import Derived.Test.YtnfmnipckcidlaaDoorE14
import Derived.OpenShut
import Derived.Deep.Slices
import Derived.SizedLaws
import Derived.Carry
set_option linter.unusedVariables false
set_option linter.unusedSimpArgs false
namespace Go.Eng
open Go.RowKit (Below)

/-- What a cell may hold. -/
inductive Sh where
  | int (k : IntKind)
  | bool
  | str
  | row (c : Kind)
  deriving DecidableEq
def Kind.shapes : Kind → List Sh
  | .int k => [.int k]
  | .bool => [.bool]
  | .str => [.str]
  | .obj => [.int .u8, .str, .int .u64, .int .u64, .bool, .bool, .str, .int .i64, .int .i64, .int .u8, .bool, .bool, .str, .str, .str, .str, .str, .int .u8, .int .u64, .int .u64]
  | .call => [.int .u8, .str, .int .u64, .int .i64, .str, .str, .str]
  | .ask => [.str, .int .u64, .int .u64]
  | .label => [.str, .str]
  | .term => [.str, .row .str]
  | .zone => [.str, .int .i64]
  | .vol => [.str, .int .i64, .str, .int .u64, .row .str]
  | .snap => [.str, .int .i64, .int .u64]
  | .sn => [.int .i64, .int .u64]
  | .done => [.int .u8, .str, .int .u64, .int .i64, .str, .str, .str, .int .i64, .int .i64, .str, .int .u64]
  | .deed => [.int .u8, .str, .int .u64, .int .i64, .str, .str, .str, .int .u64]
  | .deed2 => [.int .u8, .str, .int .u64, .int .i64, .str, .str, .str, .int .u8, .int .u64, .bool, .int .i64]
  | .key => [.int .u8, .str]
  | .tgt => [.bool, .str]
  | .event => [.int .u64, .bool, .int .u8, .str, .int .u64, .int .u64, .bool, .bool, .str, .int .i64, .int .i64, .int .u8, .bool, .bool, .str, .str, .str, .str, .str, .int .u8, .int .u64, .int .u64]
  | .strs => [.row .str]
  | .labels => [.row .label]
  | .terms => [.row .term]
def Kind.all : List Kind := [.int .i8, .int .i16, .int .i32, .int .i64, .int .u8, .int .u16, .int .u32, .int .u64, .bool, .str, .obj, .call, .ask, .label, .term, .zone, .vol, .snap, .sn, .done, .deed, .deed2, .key, .tgt, .event, .strs, .labels, .terms]
def Coll.push (c : Coll) (e : List AV) : Option Coll := (c.k.dec e).map fun x => ⟨c.k, c.xs ++ [x]⟩
inductive Fits : Sh → AV → Prop
  | int {k : IntKind} {n : Int} (h : (Lit.int k n).wf = true) : Fits (.int k) (.int k n)
  | bool {b : Bool} : Fits .bool (.bool b)
  | str {s : ByteArray} (h : s.size ≤ reachBytes) : Fits .str (.str s)
  | row {k : Kind} {c : Coll} (h : c.k = k) (hl : c.len ≤ reachBytes) (he : ∀ (i j : Nat) (sh : Sh) (x : AV), i < c.len → k.shapes[j]? = some sh → (c.get i)[j]? = some x → Fits sh x) : Fits (.row k) (.coll c)
def FitsL : List Sh → List AV → Prop
  | [], [] => True
  | s :: ss, x :: xs => Fits s x ∧ FitsL ss xs
  | _, _ => False
theorem FitsL.nil {e : List AV} (h : FitsL [] e) : e = [] := by
  cases e with
  | nil => rfl
  | cons _ _ => exact h.elim
theorem FitsL.cons {s : Sh} {ss : List Sh} {e : List AV} (h : FitsL (s :: ss) e) : ∃ x xs, e = x :: xs ∧ Fits s x ∧ FitsL ss xs := by
  cases e with
  | nil => exact h.elim
  | cons x xs => exact ⟨x, xs, rfl, h.1, h.2⟩
theorem Fits.int_inv {k : IntKind} {x : AV} (h : Fits (.int k) x) : ∃ n, x = .int k n ∧ (Lit.int k n).wf = true := by cases h with | int h => exact ⟨_, rfl, h⟩
theorem Fits.bool_inv {x : AV} (h : Fits .bool x) : ∃ b, x = .bool b := by cases h; exact ⟨_, rfl⟩
theorem Fits.str_inv {x : AV} (h : Fits .str x) : ∃ s, x = .str s ∧ s.size ≤ reachBytes := by cases h with | str h => exact ⟨_, rfl, h⟩
theorem Fits.row_inv {k : Kind} {x : AV} (h : Fits (.row k) x) : ∃ l : List k.Ty, x = .coll ⟨k, l⟩ := by
  cases h with
  | row h hl he =>
    rename_i c
    obtain ⟨k', l⟩ := c
    simp only at h
    subst h
    exact ⟨l, rfl⟩
theorem FitsL.get : ∀ {ss : List Sh} {xs : List AV} {j : Nat} {s : Sh} {x : AV}, FitsL ss xs → ss[j]? = some s → xs[j]? = some x → Fits s x
  | [], [], _, _, _, _, h, _ => by simp at h
  | s :: ss, x :: xs, 0, _, _, h, h1, h2 => by simp at h1 h2; subst h1; subst h2; exact h.1
  | s :: ss, x :: xs, j + 1, _, _, h, h1, h2 => FitsL.get h.2 (by simpa using h1) (by simpa using h2)
  | [], _ :: _, _, _, _, h, _, _ => h.elim
  | _ :: _, [], _, _, _, h, _, _ => h.elim
theorem FitsL.len : ∀ {ss : List Sh} {xs : List AV}, FitsL ss xs → ss.length = xs.length
  | [], [], _ => rfl
  | _ :: _, _ :: _, h => by simp [FitsL.len h.2]
  | [], _ :: _, h => h.elim
  | _ :: _, [], h => h.elim
theorem FitsL.append : ∀ {ss ts : List Sh} {xs ys : List AV}, FitsL ss xs → FitsL ts ys → FitsL (ss ++ ts) (xs ++ ys)
  | [], _, [], _, _, h => h
  | _ :: _, _, _ :: _, _, h, k => ⟨h.1, FitsL.append h.2 k⟩
  | [], _, _ :: _, _, h, _ => h.elim
  | _ :: _, _, [], _, h, _ => h.elim
theorem getD_push_lt {α : Type} {l : List α} {x d : α} {i : Nat} (h : i < l.length) : (l ++ [x]).getD i d = l.getD i d := by
  simp [List.getD_eq_getElem?_getD, List.getElem?_append_left h]
theorem getD_push_eq {α : Type} {l : List α} {x d : α} : (l ++ [x]).getD l.length d = x := by
  simp [List.getD_eq_getElem?_getD]
theorem fits_dec (k : Kind) {e : List AV} (h : FitsL k.shapes e) : ∃ x, k.dec e = some x ∧ k.enc x = e := by
  cases k with
  | int k =>
    simp only [Kind.shapes] at h
    obtain ⟨x0, e0, rfl, h0, g0⟩ := FitsL.cons h
    obtain ⟨x0, rfl, -⟩ := h0.int_inv
    obtain rfl := FitsL.nil g0
    exact ⟨x0, by simp [Kind.dec], rfl⟩
  | bool =>
    simp only [Kind.shapes] at h
    obtain ⟨x0, e0, rfl, h0, g0⟩ := FitsL.cons h
    obtain ⟨x0, rfl⟩ := h0.bool_inv
    obtain rfl := FitsL.nil g0
    exact ⟨x0, rfl, rfl⟩
  | str =>
    simp only [Kind.shapes] at h
    obtain ⟨x0, e0, rfl, h0, g0⟩ := FitsL.cons h
    obtain ⟨x0, rfl, -⟩ := h0.str_inv
    obtain rfl := FitsL.nil g0
    exact ⟨x0, rfl, rfl⟩
  | obj =>
    simp only [Kind.shapes] at h
    obtain ⟨x0, e0, rfl, h0, g0⟩ := FitsL.cons h
    obtain ⟨x0, rfl, -⟩ := h0.int_inv
    obtain ⟨x1, e1, rfl, h1, g1⟩ := FitsL.cons g0
    obtain ⟨x1, rfl, -⟩ := h1.str_inv
    obtain ⟨x2, e2, rfl, h2, g2⟩ := FitsL.cons g1
    obtain ⟨x2, rfl, -⟩ := h2.int_inv
    obtain ⟨x3, e3, rfl, h3, g3⟩ := FitsL.cons g2
    obtain ⟨x3, rfl, -⟩ := h3.int_inv
    obtain ⟨x4, e4, rfl, h4, g4⟩ := FitsL.cons g3
    obtain ⟨x4, rfl⟩ := h4.bool_inv
    obtain ⟨x5, e5, rfl, h5, g5⟩ := FitsL.cons g4
    obtain ⟨x5, rfl⟩ := h5.bool_inv
    obtain ⟨x6, e6, rfl, h6, g6⟩ := FitsL.cons g5
    obtain ⟨x6, rfl, -⟩ := h6.str_inv
    obtain ⟨x7, e7, rfl, h7, g7⟩ := FitsL.cons g6
    obtain ⟨x7, rfl, -⟩ := h7.int_inv
    obtain ⟨x8, e8, rfl, h8, g8⟩ := FitsL.cons g7
    obtain ⟨x8, rfl, -⟩ := h8.int_inv
    obtain ⟨x9, e9, rfl, h9, g9⟩ := FitsL.cons g8
    obtain ⟨x9, rfl, -⟩ := h9.int_inv
    obtain ⟨x10, e10, rfl, h10, g10⟩ := FitsL.cons g9
    obtain ⟨x10, rfl⟩ := h10.bool_inv
    obtain ⟨x11, e11, rfl, h11, g11⟩ := FitsL.cons g10
    obtain ⟨x11, rfl⟩ := h11.bool_inv
    obtain ⟨x12, e12, rfl, h12, g12⟩ := FitsL.cons g11
    obtain ⟨x12, rfl, -⟩ := h12.str_inv
    obtain ⟨x13, e13, rfl, h13, g13⟩ := FitsL.cons g12
    obtain ⟨x13, rfl, -⟩ := h13.str_inv
    obtain ⟨x14, e14, rfl, h14, g14⟩ := FitsL.cons g13
    obtain ⟨x14, rfl, -⟩ := h14.str_inv
    obtain ⟨x15, e15, rfl, h15, g15⟩ := FitsL.cons g14
    obtain ⟨x15, rfl, -⟩ := h15.str_inv
    obtain ⟨x16, e16, rfl, h16, g16⟩ := FitsL.cons g15
    obtain ⟨x16, rfl, -⟩ := h16.str_inv
    obtain ⟨x17, e17, rfl, h17, g17⟩ := FitsL.cons g16
    obtain ⟨x17, rfl, -⟩ := h17.int_inv
    obtain ⟨x18, e18, rfl, h18, g18⟩ := FitsL.cons g17
    obtain ⟨x18, rfl, -⟩ := h18.int_inv
    obtain ⟨x19, e19, rfl, h19, g19⟩ := FitsL.cons g18
    obtain ⟨x19, rfl, -⟩ := h19.int_inv
    obtain rfl := FitsL.nil g19
    exact ⟨⟨x0, x1, x2, x3, x4, x5, x6, x7, x8, x9, x10, x11, x12, x13, x14, x15, x16, x17, x18, x19⟩, rfl, rfl⟩
  | call =>
    simp only [Kind.shapes] at h
    obtain ⟨x0, e0, rfl, h0, g0⟩ := FitsL.cons h
    obtain ⟨x0, rfl, -⟩ := h0.int_inv
    obtain ⟨x1, e1, rfl, h1, g1⟩ := FitsL.cons g0
    obtain ⟨x1, rfl, -⟩ := h1.str_inv
    obtain ⟨x2, e2, rfl, h2, g2⟩ := FitsL.cons g1
    obtain ⟨x2, rfl, -⟩ := h2.int_inv
    obtain ⟨x3, e3, rfl, h3, g3⟩ := FitsL.cons g2
    obtain ⟨x3, rfl, -⟩ := h3.int_inv
    obtain ⟨x4, e4, rfl, h4, g4⟩ := FitsL.cons g3
    obtain ⟨x4, rfl, -⟩ := h4.str_inv
    obtain ⟨x5, e5, rfl, h5, g5⟩ := FitsL.cons g4
    obtain ⟨x5, rfl, -⟩ := h5.str_inv
    obtain ⟨x6, e6, rfl, h6, g6⟩ := FitsL.cons g5
    obtain ⟨x6, rfl, -⟩ := h6.str_inv
    obtain rfl := FitsL.nil g6
    exact ⟨⟨x0, x1, x2, x3, x4, x5, x6⟩, rfl, rfl⟩
  | ask =>
    simp only [Kind.shapes] at h
    obtain ⟨x0, e0, rfl, h0, g0⟩ := FitsL.cons h
    obtain ⟨x0, rfl, -⟩ := h0.str_inv
    obtain ⟨x1, e1, rfl, h1, g1⟩ := FitsL.cons g0
    obtain ⟨x1, rfl, -⟩ := h1.int_inv
    obtain ⟨x2, e2, rfl, h2, g2⟩ := FitsL.cons g1
    obtain ⟨x2, rfl, -⟩ := h2.int_inv
    obtain rfl := FitsL.nil g2
    exact ⟨⟨x0, x1, x2⟩, rfl, rfl⟩
  | label =>
    simp only [Kind.shapes] at h
    obtain ⟨x0, e0, rfl, h0, g0⟩ := FitsL.cons h
    obtain ⟨x0, rfl, -⟩ := h0.str_inv
    obtain ⟨x1, e1, rfl, h1, g1⟩ := FitsL.cons g0
    obtain ⟨x1, rfl, -⟩ := h1.str_inv
    obtain rfl := FitsL.nil g1
    exact ⟨⟨x0, x1⟩, rfl, rfl⟩
  | term =>
    simp only [Kind.shapes] at h
    obtain ⟨x0, e0, rfl, h0, g0⟩ := FitsL.cons h
    obtain ⟨x0, rfl, -⟩ := h0.str_inv
    obtain ⟨x1, e1, rfl, h1, g1⟩ := FitsL.cons g0
    obtain ⟨x1, rfl⟩ := h1.row_inv
    obtain rfl := FitsL.nil g1
    exact ⟨⟨x0, x1⟩, rfl, rfl⟩
  | zone =>
    simp only [Kind.shapes] at h
    obtain ⟨x0, e0, rfl, h0, g0⟩ := FitsL.cons h
    obtain ⟨x0, rfl, -⟩ := h0.str_inv
    obtain ⟨x1, e1, rfl, h1, g1⟩ := FitsL.cons g0
    obtain ⟨x1, rfl, -⟩ := h1.int_inv
    obtain rfl := FitsL.nil g1
    exact ⟨⟨x0, x1⟩, rfl, rfl⟩
  | vol =>
    simp only [Kind.shapes] at h
    obtain ⟨x0, e0, rfl, h0, g0⟩ := FitsL.cons h
    obtain ⟨x0, rfl, -⟩ := h0.str_inv
    obtain ⟨x1, e1, rfl, h1, g1⟩ := FitsL.cons g0
    obtain ⟨x1, rfl, -⟩ := h1.int_inv
    obtain ⟨x2, e2, rfl, h2, g2⟩ := FitsL.cons g1
    obtain ⟨x2, rfl, -⟩ := h2.str_inv
    obtain ⟨x3, e3, rfl, h3, g3⟩ := FitsL.cons g2
    obtain ⟨x3, rfl, -⟩ := h3.int_inv
    obtain ⟨x4, e4, rfl, h4, g4⟩ := FitsL.cons g3
    obtain ⟨x4, rfl⟩ := h4.row_inv
    obtain rfl := FitsL.nil g4
    exact ⟨⟨x0, x1, x2, x3, x4⟩, rfl, rfl⟩
  | snap =>
    simp only [Kind.shapes] at h
    obtain ⟨x0, e0, rfl, h0, g0⟩ := FitsL.cons h
    obtain ⟨x0, rfl, -⟩ := h0.str_inv
    obtain ⟨x1, e1, rfl, h1, g1⟩ := FitsL.cons g0
    obtain ⟨x1, rfl, -⟩ := h1.int_inv
    obtain ⟨x2, e2, rfl, h2, g2⟩ := FitsL.cons g1
    obtain ⟨x2, rfl, -⟩ := h2.int_inv
    obtain rfl := FitsL.nil g2
    exact ⟨⟨x0, x1, x2⟩, rfl, rfl⟩
  | sn =>
    simp only [Kind.shapes] at h
    obtain ⟨x0, e0, rfl, h0, g0⟩ := FitsL.cons h
    obtain ⟨x0, rfl, -⟩ := h0.int_inv
    obtain ⟨x1, e1, rfl, h1, g1⟩ := FitsL.cons g0
    obtain ⟨x1, rfl, -⟩ := h1.int_inv
    obtain rfl := FitsL.nil g1
    exact ⟨⟨x0, x1⟩, rfl, rfl⟩
  | done =>
    simp only [Kind.shapes] at h
    obtain ⟨x0, e0, rfl, h0, g0⟩ := FitsL.cons h
    obtain ⟨x0, rfl, -⟩ := h0.int_inv
    obtain ⟨x1, e1, rfl, h1, g1⟩ := FitsL.cons g0
    obtain ⟨x1, rfl, -⟩ := h1.str_inv
    obtain ⟨x2, e2, rfl, h2, g2⟩ := FitsL.cons g1
    obtain ⟨x2, rfl, -⟩ := h2.int_inv
    obtain ⟨x3, e3, rfl, h3, g3⟩ := FitsL.cons g2
    obtain ⟨x3, rfl, -⟩ := h3.int_inv
    obtain ⟨x4, e4, rfl, h4, g4⟩ := FitsL.cons g3
    obtain ⟨x4, rfl, -⟩ := h4.str_inv
    obtain ⟨x5, e5, rfl, h5, g5⟩ := FitsL.cons g4
    obtain ⟨x5, rfl, -⟩ := h5.str_inv
    obtain ⟨x6, e6, rfl, h6, g6⟩ := FitsL.cons g5
    obtain ⟨x6, rfl, -⟩ := h6.str_inv
    obtain ⟨x7, e7, rfl, h7, g7⟩ := FitsL.cons g6
    obtain ⟨x7, rfl, -⟩ := h7.int_inv
    obtain ⟨x8, e8, rfl, h8, g8⟩ := FitsL.cons g7
    obtain ⟨x8, rfl, -⟩ := h8.int_inv
    obtain ⟨x9, e9, rfl, h9, g9⟩ := FitsL.cons g8
    obtain ⟨x9, rfl, -⟩ := h9.str_inv
    obtain ⟨x10, e10, rfl, h10, g10⟩ := FitsL.cons g9
    obtain ⟨x10, rfl, -⟩ := h10.int_inv
    obtain rfl := FitsL.nil g10
    exact ⟨⟨⟨x0, x1, x2, x3, x4, x5, x6⟩, ⟨x7, x8, x9, x10⟩⟩, rfl, rfl⟩
  | deed =>
    simp only [Kind.shapes] at h
    obtain ⟨x0, e0, rfl, h0, g0⟩ := FitsL.cons h
    obtain ⟨x0, rfl, -⟩ := h0.int_inv
    obtain ⟨x1, e1, rfl, h1, g1⟩ := FitsL.cons g0
    obtain ⟨x1, rfl, -⟩ := h1.str_inv
    obtain ⟨x2, e2, rfl, h2, g2⟩ := FitsL.cons g1
    obtain ⟨x2, rfl, -⟩ := h2.int_inv
    obtain ⟨x3, e3, rfl, h3, g3⟩ := FitsL.cons g2
    obtain ⟨x3, rfl, -⟩ := h3.int_inv
    obtain ⟨x4, e4, rfl, h4, g4⟩ := FitsL.cons g3
    obtain ⟨x4, rfl, -⟩ := h4.str_inv
    obtain ⟨x5, e5, rfl, h5, g5⟩ := FitsL.cons g4
    obtain ⟨x5, rfl, -⟩ := h5.str_inv
    obtain ⟨x6, e6, rfl, h6, g6⟩ := FitsL.cons g5
    obtain ⟨x6, rfl, -⟩ := h6.str_inv
    obtain ⟨x7, e7, rfl, h7, g7⟩ := FitsL.cons g6
    obtain ⟨x7, rfl, -⟩ := h7.int_inv
    obtain rfl := FitsL.nil g7
    exact ⟨⟨⟨x0, x1, x2, x3, x4, x5, x6⟩, x7⟩, rfl, rfl⟩
  | deed2 =>
    simp only [Kind.shapes] at h
    obtain ⟨x0, e0, rfl, h0, g0⟩ := FitsL.cons h
    obtain ⟨x0, rfl, -⟩ := h0.int_inv
    obtain ⟨x1, e1, rfl, h1, g1⟩ := FitsL.cons g0
    obtain ⟨x1, rfl, -⟩ := h1.str_inv
    obtain ⟨x2, e2, rfl, h2, g2⟩ := FitsL.cons g1
    obtain ⟨x2, rfl, -⟩ := h2.int_inv
    obtain ⟨x3, e3, rfl, h3, g3⟩ := FitsL.cons g2
    obtain ⟨x3, rfl, -⟩ := h3.int_inv
    obtain ⟨x4, e4, rfl, h4, g4⟩ := FitsL.cons g3
    obtain ⟨x4, rfl, -⟩ := h4.str_inv
    obtain ⟨x5, e5, rfl, h5, g5⟩ := FitsL.cons g4
    obtain ⟨x5, rfl, -⟩ := h5.str_inv
    obtain ⟨x6, e6, rfl, h6, g6⟩ := FitsL.cons g5
    obtain ⟨x6, rfl, -⟩ := h6.str_inv
    obtain ⟨x7, e7, rfl, h7, g7⟩ := FitsL.cons g6
    obtain ⟨x7, rfl, -⟩ := h7.int_inv
    obtain ⟨x8, e8, rfl, h8, g8⟩ := FitsL.cons g7
    obtain ⟨x8, rfl, -⟩ := h8.int_inv
    obtain ⟨x9, e9, rfl, h9, g9⟩ := FitsL.cons g8
    obtain ⟨x9, rfl⟩ := h9.bool_inv
    obtain ⟨x10, e10, rfl, h10, g10⟩ := FitsL.cons g9
    obtain ⟨x10, rfl, -⟩ := h10.int_inv
    obtain rfl := FitsL.nil g10
    exact ⟨⟨⟨x0, x1, x2, x3, x4, x5, x6⟩, x7, x8, x9, x10⟩, rfl, rfl⟩
  | key =>
    simp only [Kind.shapes] at h
    obtain ⟨x0, e0, rfl, h0, g0⟩ := FitsL.cons h
    obtain ⟨x0, rfl, -⟩ := h0.int_inv
    obtain ⟨x1, e1, rfl, h1, g1⟩ := FitsL.cons g0
    obtain ⟨x1, rfl, -⟩ := h1.str_inv
    obtain rfl := FitsL.nil g1
    exact ⟨⟨x0, x1⟩, rfl, rfl⟩
  | tgt =>
    simp only [Kind.shapes] at h
    obtain ⟨x0, e0, rfl, h0, g0⟩ := FitsL.cons h
    obtain ⟨x0, rfl⟩ := h0.bool_inv
    obtain ⟨x1, e1, rfl, h1, g1⟩ := FitsL.cons g0
    obtain ⟨x1, rfl, -⟩ := h1.str_inv
    obtain rfl := FitsL.nil g1
    exact ⟨⟨x0, x1⟩, rfl, rfl⟩
  | event =>
    simp only [Kind.shapes] at h
    obtain ⟨x0, e0, rfl, h0, g0⟩ := FitsL.cons h
    obtain ⟨x0, rfl, -⟩ := h0.int_inv
    obtain ⟨x1, e1, rfl, h1, g1⟩ := FitsL.cons g0
    obtain ⟨x1, rfl⟩ := h1.bool_inv
    obtain ⟨x2, e2, rfl, h2, g2⟩ := FitsL.cons g1
    obtain ⟨x2, rfl, -⟩ := h2.int_inv
    obtain ⟨x3, e3, rfl, h3, g3⟩ := FitsL.cons g2
    obtain ⟨x3, rfl, -⟩ := h3.str_inv
    obtain ⟨x4, e4, rfl, h4, g4⟩ := FitsL.cons g3
    obtain ⟨x4, rfl, -⟩ := h4.int_inv
    obtain ⟨x5, e5, rfl, h5, g5⟩ := FitsL.cons g4
    obtain ⟨x5, rfl, -⟩ := h5.int_inv
    obtain ⟨x6, e6, rfl, h6, g6⟩ := FitsL.cons g5
    obtain ⟨x6, rfl⟩ := h6.bool_inv
    obtain ⟨x7, e7, rfl, h7, g7⟩ := FitsL.cons g6
    obtain ⟨x7, rfl⟩ := h7.bool_inv
    obtain ⟨x8, e8, rfl, h8, g8⟩ := FitsL.cons g7
    obtain ⟨x8, rfl, -⟩ := h8.str_inv
    obtain ⟨x9, e9, rfl, h9, g9⟩ := FitsL.cons g8
    obtain ⟨x9, rfl, -⟩ := h9.int_inv
    obtain ⟨x10, e10, rfl, h10, g10⟩ := FitsL.cons g9
    obtain ⟨x10, rfl, -⟩ := h10.int_inv
    obtain ⟨x11, e11, rfl, h11, g11⟩ := FitsL.cons g10
    obtain ⟨x11, rfl, -⟩ := h11.int_inv
    obtain ⟨x12, e12, rfl, h12, g12⟩ := FitsL.cons g11
    obtain ⟨x12, rfl⟩ := h12.bool_inv
    obtain ⟨x13, e13, rfl, h13, g13⟩ := FitsL.cons g12
    obtain ⟨x13, rfl⟩ := h13.bool_inv
    obtain ⟨x14, e14, rfl, h14, g14⟩ := FitsL.cons g13
    obtain ⟨x14, rfl, -⟩ := h14.str_inv
    obtain ⟨x15, e15, rfl, h15, g15⟩ := FitsL.cons g14
    obtain ⟨x15, rfl, -⟩ := h15.str_inv
    obtain ⟨x16, e16, rfl, h16, g16⟩ := FitsL.cons g15
    obtain ⟨x16, rfl, -⟩ := h16.str_inv
    obtain ⟨x17, e17, rfl, h17, g17⟩ := FitsL.cons g16
    obtain ⟨x17, rfl, -⟩ := h17.str_inv
    obtain ⟨x18, e18, rfl, h18, g18⟩ := FitsL.cons g17
    obtain ⟨x18, rfl, -⟩ := h18.str_inv
    obtain ⟨x19, e19, rfl, h19, g19⟩ := FitsL.cons g18
    obtain ⟨x19, rfl, -⟩ := h19.int_inv
    obtain ⟨x20, e20, rfl, h20, g20⟩ := FitsL.cons g19
    obtain ⟨x20, rfl, -⟩ := h20.int_inv
    obtain ⟨x21, e21, rfl, h21, g21⟩ := FitsL.cons g20
    obtain ⟨x21, rfl, -⟩ := h21.int_inv
    obtain rfl := FitsL.nil g21
    exact ⟨⟨x0, x1, ⟨x2, x3, x4, x5, x6, x7, x8, x9, x10, x11, x12, x13, x14, x15, x16, x17, x18, x19, x20, x21⟩⟩, rfl, rfl⟩
  | strs =>
    simp only [Kind.shapes] at h
    obtain ⟨x0, e0, rfl, h0, g0⟩ := FitsL.cons h
    obtain ⟨x0, rfl⟩ := h0.row_inv
    obtain rfl := FitsL.nil g0
    exact ⟨x0, rfl, rfl⟩
  | labels =>
    simp only [Kind.shapes] at h
    obtain ⟨x0, e0, rfl, h0, g0⟩ := FitsL.cons h
    obtain ⟨x0, rfl⟩ := h0.row_inv
    obtain rfl := FitsL.nil g0
    exact ⟨x0, rfl, rfl⟩
  | terms =>
    simp only [Kind.shapes] at h
    obtain ⟨x0, e0, rfl, h0, g0⟩ := FitsL.cons h
    obtain ⟨x0, rfl⟩ := h0.row_inv
    obtain rfl := FitsL.nil g0
    exact ⟨x0, rfl, rfl⟩
/-- An element more. -/
theorem push_ok {c : Coll} {e : List AV} (h : FitsL c.k.shapes e) : ∃ c', c.push e = some c' ∧ c'.k = c.k ∧ c'.len = c.len + 1 ∧ (∀ i, i < c.len → c'.get i = c.get i) ∧ c'.get c.len = e := by
  obtain ⟨x, h1, h2⟩ := fits_dec c.k h
  refine ⟨⟨c.k, c.xs ++ [x]⟩, by simp [Coll.push, h1], rfl, by simp [Coll.len], fun i hi => ?_, ?_⟩
  · simp only [Coll.get]; rw [getD_push_lt hi]
  · simp only [Coll.get, Coll.len]; rw [getD_push_eq]; exact h2
def Kind.blank (k : Kind) : Coll := ⟨k, []⟩
theorem blank_kind (k : Kind) : k.blank.k = k := rfl
theorem blank_len (k : Kind) : k.blank.len = 0 := rfl
theorem esz_shapes (c : Coll) : c.k.shapes.length = c.esz := by obtain ⟨k, l⟩ := c; cases k <;> rfl
theorem shapes_pos (k : Kind) : 0 < k.shapes.length := by cases k <;> simp [Kind.shapes]
theorem build_ok (k : Kind) (es : Nat → List AV) : ∀ n, (∀ i, i < n → FitsL k.shapes (es i)) → ∃ c : Coll, c.k = k ∧ c.len = n ∧ ∀ i, i < n → c.get i = es i
  | 0, _ => ⟨⟨k, []⟩, rfl, rfl, fun i hi => by omega⟩
  | n + 1, h => by
    obtain ⟨c, h1, h2, h3⟩ := build_ok k es n fun i hi => h i (by omega)
    obtain ⟨c', _, k2, k3, k4, k5⟩ := push_ok (c := c) (e := es n) (by rw [h1]; exact h n (by omega))
    refine ⟨c', k2.trans h1, by omega, fun i hi => ?_⟩
    rcases Nat.lt_or_ge i n with hlt | hge
    · rw [k4 i (by omega), h3 i hlt]
    · have : i = c.len := by omega
      subst this
      rw [k5, h2]

/-! ### Types -/
def ckOf (l : List Sh) : Option Kind := Kind.all.find? fun k => decide (k.shapes = l)
def shFields (P : Program) (g : TypeId → Option (List Sh)) : List Field → Nat → Option (List Sh)
  | [], _ => some []
  | f :: fs, off => if f.offset = off then match g f.type with
      | some l => if P.cellsOf f.type = l.length then (shFields P g fs (off + l.length)).map (l ++ ·) else none
      | none => none
    else none
def shOf (P : Program) : Nat → Nat → TypeId → Option (List Sh)
  | 0, _, _ => none
  | n + 1, d, t => match P.underlying t with
    | some (.int k) => some [.int k]
    | some .bool => some [.bool]
    | some .string => some [.str]
    | some (.slice e) => match d with
      | 0 => none
      | d + 1 => match shOf P n d e with
        | some l => match ckOf l with
          | some k => if P.cellsOf e = l.length ∧ 0 < P.bytesOf e then some [.row k] else none
          | none => none
        | none => none
    | some (.struct fs) => match shFields P (shOf P n d) fs.toList 0 with
      | some l => if P.cellsOf t = l.length then some l else none
      | none => none
    | some (.array m e) => match shOf P n d e with
      | some l => if P.cellsOf e = l.length ∧ P.cellsOf t = m * l.length then some (List.replicate m l).flatten else none
      | none => none
    | _ => none
def repD (M : Mem) (d : Nat) : AV → Value → Prop
  | .coll c, v => repC M d c v
  | x, v => sc x v
def repDL (M : Mem) (d : Nat) : List AV → List Value → Prop
  | [], [] => True
  | x :: xs, v :: vs => repD M d x v ∧ repDL M d xs vs
  | _, _ => False
theorem repDL_append {M : Mem} {d : Nat} : ∀ {xs : List AV} {vs : List Value} {ys : List AV} {us : List Value}, repDL M d xs vs → repDL M d ys us → repDL M d (xs ++ ys) (vs ++ us)
  | [], [], _, _, _, h => h
  | _ :: _, _ :: _, _, _, h, k => ⟨h.1, repDL_append h.2 k⟩
  | [], _ :: _, _, _, h, _ => h.elim
  | _ :: _, [], _, _, h, _ => h.elim
theorem repDL_get {M : Mem} {d : Nat} : ∀ {xs : List AV} {vs : List Value}, repDL M d xs vs → ∀ (j : Nat) (x : AV), xs[j]? = some x → ∃ v, vs[j]? = some v ∧ repD M d x v
  | [], [], _, j, x, hx => by simp at hx
  | y :: xs, v :: vs, h, 0, x, hx => by simp at hx; subst hx; exact ⟨v, rfl, h.1⟩
  | y :: xs, v :: vs, h, j + 1, x, hx => by simpa using repDL_get h.2 j x (by simpa using hx)
  | [], _ :: _, h, _, _, _ => h.elim
  | _ :: _, [], h, _, _, _ => h.elim
/-- All that is there. -/
def memOf (w : World) : Mem := fun b o => w.cell? ⟨b, o, none⟩

section
variable {H : Type} {enc : TypeId × Value → H} {P : Program} {W : World} {sp : Nat → Bool} {held : Bool}
theorem open_fields {g : TypeId → Option (List Sh)} {d n : Nat} {cs : List Value}
    (hg : ∀ t l cs x, g t = some l → DataW.trod enc P W 0 sp held n t cs = some x → (∀ k ∈ x.1.weights P t, k ≤ reachBytes) → ∃ avs, repDL (memOf W) d avs cs ∧ FitsL l avs) : ∀ (fs : List Field) (off : Nat) (l : List Sh) (xs : List (DataW H × List MemPlace)),
    shFields P g fs off = some l → xs.length = fs.length → (∀ (i : Nat) (f : Field), fs[i]? = some f → DataW.trod enc P W 0 sp held n f.type ((cs.drop f.offset).take (P.cellsOf f.type)) = xs[i]?) →
    (∀ k ∈ DataW.weightsEach P (fs.map (·.type)) (xs.map (·.1)), k ≤ reachBytes) → off + l.length = cs.length → ∃ avs, repDL (memOf W) d avs (cs.drop off) ∧ FitsL l avs
  | [], off, l, xs, h, _, _, _, hlen => by
    simp only [shFields, Option.some.injEq] at h
    subst h
    refine ⟨[], ?_, trivial⟩
    rw [List.drop_eq_nil_of_le (by simp at hlen; omega)]
    trivial
  | f :: fs, off, l, xs, h, hx, ht, hw, hlen => by
    simp only [shFields] at h
    split at h
    · rename_i hoff
      split at h
      · rename_i l1 hl1
        split at h
        · rename_i hc
          cases hr : shFields P g fs (off + l1.length) with
          | none => rw [hr] at h; cases h
          | some l2 =>
            rw [hr] at h
            simp only [Option.map_some, Option.some.injEq] at h
            subst h
            match xs, hx with
            | x :: xs, hx =>
              have h0 := ht 0 f rfl
              simp only [List.getElem?_cons_zero] at h0
              rw [hoff, hc] at h0
              simp only [List.map_cons, DataW.weightsEach, List.mem_append] at hw
              obtain ⟨a1, b1, c1⟩ := hg _ _ _ _ hl1 h0 fun k hk => hw k (.inl hk)
              simp only [List.length_append] at hlen
              obtain ⟨a2, b2, c2⟩ := open_fields hg fs (off + l1.length) l2 xs hr (by simpa using hx) (fun i f' hf => by simpa using ht (i + 1) f' (by simpa using hf)) (fun k hk => hw k (.inr hk)) (by omega)
              refine ⟨a1 ++ a2, ?_, c1.append c2⟩
              have := repDL_append b1 b2
              rw [← List.drop_drop, List.take_append_drop] at this
              exact this
        · cases h
      · cases h
    · cases h
theorem open_array {e : TypeId} {le : List Sh} {d n m : Nat} {cs : List Value} {xs : List (DataW H × List MemPlace)} (hx : xs.length = m) (hc : cs.length = m * le.length)
    (ht : ∀ i, i < m → DataW.trod enc P W 0 sp held n e ((cs.drop (i * le.length)).take le.length) = xs[i]?) (hw : ∀ x ∈ xs, ∀ k ∈ x.1.weights P e, k ≤ reachBytes)
    (hg : ∀ cs x, DataW.trod enc P W 0 sp held n e cs = some x → (∀ k ∈ x.1.weights P e, k ≤ reachBytes) → ∃ avs, repDL (memOf W) d avs cs ∧ FitsL le avs) : ∀ j, j ≤ m → ∃ avs, repDL (memOf W) d avs (cs.drop ((m - j) * le.length)) ∧ FitsL (List.replicate j le).flatten avs
  | 0, _ => by
    refine ⟨[], ?_, trivial⟩
    rw [List.drop_eq_nil_of_le (by simp [hc])]
    trivial
  | j + 1, hj => by
    obtain ⟨a2, b2, c2⟩ := open_array hx hc ht hw hg j (by omega)
    have h0 := ht (m - (j + 1)) (by omega)
    rw [List.getElem?_eq_getElem (by omega)] at h0
    obtain ⟨a1, b1, c1⟩ := hg _ _ h0 (hw _ (List.getElem_mem _))
    refine ⟨a1 ++ a2, ?_, by rw [List.replicate_succ, List.flatten_cons]; exact c1.append c2⟩
    have := repDL_append b1 b2
    have e1 : (m - j) * le.length = (m - (j + 1)) * le.length + le.length := by
      rw [show m - j = (m - (j + 1)) + 1 from by omega, Nat.succ_mul]
    rw [e1, ← List.drop_drop, List.take_append_drop] at this
    exact this
theorem weightsAll_mem {e : TypeId} : ∀ {l : List (DataW H)} {x : DataW H} {k : Nat}, x ∈ l → k ∈ x.weights P e → k ∈ DataW.weightsAll P e l
  | y :: l, x, k, h, hk => by
    simp only [DataW.weightsAll, List.mem_append]
    rcases List.mem_cons.1 h with rfl | h
    · exact .inl hk
    · exact .inr (weightsAll_mem h hk)
theorem open_sh : ∀ (n d : Nat) (t : TypeId) (l : List Sh) (fuel : Nat) (cs : List Value) (x : DataW H × List MemPlace), shOf P n d t = some l → DataW.trod enc P W 0 sp held fuel t cs = some x → (∀ k ∈ x.1.weights P t, k ≤ reachBytes) →
    ∃ avs, repDL (memOf W) d avs cs ∧ FitsL l avs
  | 0, _, _, _, _, _, _, h, _, _ => by simp [shOf] at h
  | n + 1, d, t, l, fuel, cs, x, h, ht, hw => by
    simp only [shOf] at h
    split at h
    · rename_i k hu
      injection h with h; subst h
      obtain ⟨i, rfl, rfl, hwf⟩ := DataW.trod_int hu ht
      exact ⟨[.int k i], ⟨rfl, trivial⟩, .int hwf, trivial⟩
    · rename_i hu
      injection h with h; subst h
      obtain ⟨b, rfl, rfl⟩ := DataW.trod_bool hu ht
      exact ⟨[.bool b], ⟨rfl, trivial⟩, .bool, trivial⟩
    · rename_i hu
      injection h with h; subst h
      obtain ⟨s, rfl, rfl, _⟩ := DataW.trod_string hu ht
      refine ⟨[.str s], ⟨rfl, trivial⟩, .str ?_, trivial⟩
      have := hw s.data.toList.length (by simp [DataW.weights])
      simpa using this
    · rename_i e hu
      split at h
      · cases h
      · rename_i d
        split at h
        · rename_i le hle
          split at h
          · rename_i k hk
            split at h
            · rename_i hc
              injection h with h; subst h
              have hks : k.shapes = le := by
                have := List.find?_some hk
                simpa using this
              subst hks
              rcases Go.Deep.open_slice hu ht with ⟨rfl, rfl⟩ | ⟨a, len, cap, m, n2, D, Pl, rfl, _, hl, _, hm, rfl, hel⟩
              · refine ⟨[.coll k.blank], ⟨⟨none, 0, by rw [blank_len], by rw [blank_len]; exact Nat.le_refl _, fun h0 => by rw [blank_len] at h0; omega⟩, trivial⟩, .row (blank_kind k) (by rw [blank_len]; exact Nat.zero_le _) fun i j sh y hi => by rw [blank_len] at hi; omega, trivial⟩
              · have hlm : len ≤ m := by rw [hm]; split <;> omega
                have hall : ∀ i, i < len → ∃ avs : List AV, ∃ cs', W.cells? 0 (a.add (i * P.cellsOf e)) (P.cellsOf e) = some cs' ∧ repDL (memOf W) d avs cs' ∧ FitsL k.shapes avs := by
                  intro i hi
                  obtain ⟨cs', h1, h2⟩ := hel i (by omega)
                  obtain ⟨avs, h3, h4⟩ := open_sh n d e k.shapes n2 cs' (D i, Pl i) hle h2 (fun q hq => hw q (by
                    simp only [DataW.weights, hu, List.mem_cons, List.mem_append]
                    exact .inr (.inl (weightsAll_mem (List.mem_map.2 ⟨i, List.mem_range.2 hi, rfl⟩) hq))))
                  exact ⟨avs, cs', h1, h3, h4⟩
                obtain ⟨es, hes⟩ := Go.Deep.choose_lt (p := fun i avs => ∃ cs', W.cells? 0 (a.add (i * P.cellsOf e)) (P.cellsOf e) = some cs' ∧ repDL (memOf W) d avs cs' ∧ FitsL k.shapes avs) hall
                obtain ⟨c, c1, c2, c3⟩ := build_ok k es len fun i hi => let ⟨_, _, _, h⟩ := hes i hi; h
                have hcs : P.cellsOf e = c.esz := by rw [hc.1, ← c1, esz_shapes]
                have hlen : c.len ≤ reachBytes := by
                  have := hw ((((List.range len).map D).length + ((List.range (m - len)).map fun j => D (len + j)).length) * P.bytesOf e) (by simp [DataW.weights, hu])
                  simp only [List.length_map, List.length_range] at this
                  rw [c2]
                  refine Nat.le_trans ?_ this
                  refine Nat.le_trans ?_ (Nat.le_mul_of_pos_right _ hc.2)
                  omega
                refine ⟨[.coll c], ⟨⟨some a, cap, by rw [c2], by rw [c2]; exact hl, fun h0 => ?_⟩, trivial⟩, .row c1 hlen fun i j sh y hi hsh hy => ?_, trivial⟩
                · have hsp : a.spot = none := by
                    obtain ⟨cs0, h1, h2, h3⟩ := hes 0 (by omega)
                    obtain ⟨_, hl0, hcell⟩ := World.cells?_some h1
                    have hpos : 0 < P.cellsOf e := by rw [hc.1]; exact shapes_pos k
                    have := hcell 0 hpos
                    rw [List.getElem?_eq_getElem (by omega)] at this
                    have e0 : (a.add (0 * P.cellsOf e)).add 0 = a := by simp [Addr.add]
                    rw [e0] at this
                    unfold World.cell? at this
                    split at this
                    · split at this
                      · cases this
                      · rename_i hs; simpa using hs
                    · cases this
                  have hae : a = ⟨a.block, a.off, none⟩ := by cases a; simp at hsp; simp [hsp]
                  refine ⟨a.block, a.off, by rw [← hae], fun i hi j y hy => ?_⟩
                  rw [c2] at hi
                  obtain ⟨cs', h1, h2, h3⟩ := hes i hi
                  rw [c3 i hi] at hy
                  obtain ⟨u, hu', hr⟩ := repDL_get h2 j y hy
                  obtain ⟨_, hl', hcell⟩ := World.cells?_some h1
                  have hj : j < P.cellsOf e := by rw [← hl']; exact (List.getElem?_eq_some_iff.1 hu').1
                  refine ⟨u, ?_, ?_⟩
                  · rw [← hu', ← hcell j hj, hae]
                    show W.cell? _ = _
                    rw [← hcs, Addr.add_lit, Addr.add_lit]
                  · cases y <;> exact hr
                · rw [c2] at hi
                  rw [c3 i hi] at hy
                  obtain ⟨cs', h1, h2, h3⟩ := hes i hi
                  exact h3.get hsh hy
            · cases h
          · cases h
        · cases h
    · rename_i fs hu
      split at h
      · rename_i l' hl'
        split at h
        · rename_i hc
          injection h with h; subst h
          obtain ⟨xs, n2, rfl, rfl, hcs, hxs, hel⟩ := DataW.trod_struct hu ht
          have := open_fields (g := shOf P n d) (d := d) (n := n2) (cs := cs) (fun t l cs x h1 h2 h3 => open_sh n d t l n2 cs x h1 h2 h3) fs.toList 0 l' xs hl' (by simpa using hxs) (fun i f hf => hel i f (by simpa using hf)) (fun k hk => hw k (by simp only [DataW.weights, hu]; exact hk)) (by omega)
          simpa using this
        · cases h
      · cases h
    · rename_i m e hu
      split at h
      · rename_i le hle
        split at h
        · rename_i hc
          injection h with h; subst h
          obtain ⟨xs, n2, rfl, rfl, hcs, hxs, hel⟩ := DataW.trod_array hu ht
          have := open_array (d := d) (n := n2) (le := le) (e := e) (cs := cs) hxs (by rw [hcs, hc.2]) (fun i hi => by rw [← hc.1]; exact hel i hi) (fun x hx k hk => hw k (by
            simp only [DataW.weights, hu]
            exact weightsAll_mem (List.mem_map.2 ⟨x, hx, rfl⟩) hk)) (fun cs x h2 h3 => open_sh n d e le n2 cs x hle h2 h3) m (Nat.le_refl _)
          simpa using this
        · cases h
      · cases h
    · cases h
end
end Go.Eng
