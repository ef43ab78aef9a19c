/- The driver, plainly: lists of pairs as maps; sorted names. -/
import Derived.Test.YtkledlcmhbjadaaGreatDoorDSorted
set_option linter.unusedVariables false
set_option linter.unusedSimpArgs false
set_option maxRecDepth 100000
namespace Go.Proofs.YtkledlcmhbjadaaGreatDoor
open Go Go.Eng

section
variable {α β : Type} [DecidableEq α]
def aget (es : List (α × β)) (x : α) : Option β := match es with
 | [] => none
 | e :: r => if x = e.1 then some e.2 else aget r x
theorem aget_mem {es : List (α × β)} {x : α} {y : β} (h : aget es x = some y) : (x, y) ∈ es := by
 induction es with
 | nil => simp [aget] at h
 | cons e r ih =>
  simp only [aget] at h
  split at h
  · rename_i hx; injection h with h; subst h; subst hx; exact List.mem_cons_self
  · exact List.mem_cons_of_mem _ (ih h)
theorem aget_none {es : List (α × β)} {x : α} : aget es x = none ↔ x ∉ es.map Prod.fst := by
 induction es with
 | nil => simp [aget]
 | cons e r ih =>
  simp only [aget, List.map_cons, List.mem_cons, not_or]
  split
  · rename_i h; simp [h]
  · rename_i h; rw [ih]; simp [h]
theorem aget_isSome {es : List (α × β)} {x : α} : (aget es x).isSome = true ↔ x ∈ es.map Prod.fst := by
 have := aget_none (es := es) (x := x)
 cases h : aget es x with
 | none => simp [this.1 h]
 | some y =>
  simp only [Option.isSome_some, true_iff]
  by_cases hm : x ∈ es.map Prod.fst
  · exact hm
  · rw [this.2 hm] at h; cases h
end
instance : DecidableEq XTgt := fun a b => match a, b with
 | ⟨s, n⟩, ⟨s', n'⟩ => if h : s = s' ∧ n = n' then .isTrue (by rw [h.1, h.2]) else .isFalse fun e => h (by injection e with e1 e2; exact ⟨e1, e2⟩)
theorem vget_str (es : List (ByteArray × XVn)) (x : ByteArray) : vget es x = aget es x := by
 induction es with
 | nil => rfl
 | cons e r ih => simp only [vget, aget, Kind.eqb, decide_eq_true_eq, ih]
theorem bl_irrefl : ∀ l : List UInt8, Op.bytesLess l l = false
 | [] => rfl
 | a :: l => by
  have h := bl_irrefl l
  unfold Op.bytesLess
  rw [h]
  simp
theorem bl_trans : ∀ x y z : List UInt8, Op.bytesLess x y = true → Op.bytesLess y z = true → Op.bytesLess x z = true
 | _, [], _, h, _ => by unfold Op.bytesLess at h; simp at h
 | _, _ :: _, [], _, h => by unfold Op.bytesLess at h; simp at h
 | [], _ :: _, _ :: _, _, _ => rfl
 | a :: x, b :: y, c :: z, h1, h2 => by
  unfold Op.bytesLess at h1 h2 ⊢
  simp only [Bool.or_eq_true, decide_eq_true_eq, Bool.and_eq_true, beq_iff_eq, UInt8.lt_iff_toNat_lt] at h1 h2 ⊢
  rcases h1 with h1 | ⟨rfl, h1⟩
  · rcases h2 with h2 | ⟨rfl, h2⟩
    · exact .inl (by omega)
    · exact .inl h1
  · rcases h2 with h2 | ⟨rfl, h2⟩
    · exact .inl h2
    · exact .inr ⟨rfl, bl_trans x y z h1 h2⟩
theorem sl_irrefl (a : ByteArray) : Z9e a a = false := bl_irrefl _
theorem sl_trans {a b c : ByteArray} (h1 : Z9e a b = true) (h2 : Z9e b c = true) : Z9e a c = true := bl_trans _ _ _ h1 h2
theorem sl_asymm {a b : ByteArray} (h : Z9e a b = true) : Z9e b a = false := by
 cases h2 : Z9e b a with
 | false => rfl
 | true => have := sl_trans h h2; rw [sl_irrefl] at this; cases this
theorem sl_ne {a b : ByteArray} (h : Z9e a b = true) : a ≠ b := by rintro rfl; rw [sl_irrefl] at h; cases h
section
variable {α : Type} (key : α → ByteArray)
def Rising (l : List α) : Prop := l.Pairwise fun a b => Z9e (key a) (key b) = true
theorem Rising.sub {l l' : List α} (h : Rising key l) (hs : l'.Sublist l) : Rising key l' := h.sublist hs
theorem Rising.ext {l l' : List α} (h : Rising key l) (h' : Rising key l') (hm : ∀ x, x ∈ l ↔ x ∈ l') : l = l' := by
 have n1 : l.Nodup := List.Pairwise.imp (fun {a b} hab (e : a = b) => sl_ne hab (congrArg key e)) h
 have n2 : l'.Nodup := List.Pairwise.imp (fun {a b} hab (e : a = b) => sl_ne hab (congrArg key e)) h'
 refine List.Perm.eq_of_pairwise (le := fun a b => Z9e (key a) (key b) = true) (fun a b _ _ h1 h2 => ?_) h h' ((List.perm_ext_iff_of_nodup n1 n2).2 hm)
 rw [sl_asymm h1] at h2
 cases h2
end
end Go.Proofs.YtkledlcmhbjadaaGreatDoor
